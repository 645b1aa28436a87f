import PyProof.Rows.All
import PySem.Challenge.RW_askwright_k66_whole_alike_on_feet
import Wide.All
import OpenK.AllK
import Wide.FinOn
import HandS.Base
import HandS.Call
import HandS.Ends
import HandS.Words
import HandS.Head0
import HandS.Head1
import HandS.Head2
import HandS.HeadEnd
import HandS.HeadHook1
import HandS.HeadHook2
import HandS.HeadHook3
import HandS.ForMost
import HandS.Exc
import HandS.TryOnly
import HandS.ExcOwn
import HandS.WordsExc
import HandS.TupAny
import HandS.IsInst
import HandS.FStr
import HandS.ReplaceLit
import HandS.ReplaceDef
import HandS.ReplaceList
import PyProof.Rows.StrSplitCount
import PyProof.Rows.StrPartPair
import HandS.More
import PyProof.Rows.StrMeet
import PyProof.Rows.SortStr
import HandS.ExcInit
import HandS.ExcField
import HandS.NoneIn
import HandS.ListItems
import HandS.Style
import KE.KSortTup
import KE.KSortTupAny
import HandS.TupSets
import KE.KIntText
import PyProof.MeetsDict
import KE.GoesMore
import KE.GoesEnum
import KE.IntTextText
import KE.KDictList
import PyProof.TupleCall
import PyProof.CollectStr
import PyProof.TupleOfStr
import PyProof.Rows.Range3
import HandS.SortOrd
import HandS.Set
import HandS.SetFor
import HandS.SetKeys
import PyProof.Rows.SetFrom
import HandS.Conv
import HandS.DictTup
set_option Elab.async false
set_option linter.all false
set_option maxRecDepth 100000
set_option maxHeartbeats 4000000
namespace Aw
open PySem
def topS (i : Nat) : Stmt := PySem.Challenge.pw_askwright_k66_whole_alike_on_feet.main.body.getD i (.Pass ⟨0, 0, 0, 0⟩)
end Aw

namespace Aw
open PySem PySem.Spec PyProof.Rows L2
/-! ### a light head: only what the walk asks for is looked at -/
def refsH (o : Obj) : List Addr := match o.data with
  | .func fd => He.refV fd.code
  | .cls cd => cd.ns :: cd.mro.flatMap He.refV
  | .dict es _ => es.toList.flatMap fun e => He.refV e.val
  | _ => []
def stepH (g : Addr → Option Obj) (as : List Addr) : List Addr := as.flatMap fun a => match g a with
  | some o => refsH o
  | none => []
def asA (g : Addr → Option Obj) (xs : List Str) : List Addr := xs.map (He.ga (He.frG g [mainGlobals]))
def asH (g : Addr → Option Obj) (xs : List Str) : List Addr := mainGlobals :: (asA g xs ++ (stepH g (asA g xs) ++ (stepH g (stepH g (asA g xs)) ++ stepH g (stepH g (stepH g (asA g xs))))))
structure Hd where
  xs : List Str
  fa : List He.Fa
  fn : List He.FnD
  ts : List He.Tab
  ex : PySem.W.Frag → Bool
def stB (K : PySem.W.Frag) : Str × Option Str → Bool
  | (x, none) => He.eqO (PySem.W.nsIn K mainGlobals x) (some (some (.ref (He.ga K x))))
  | (x, some m) => He.eqO (PySem.W.findIn K (.ref (He.ga K x)) m) (some (some (.ref (He.ma K (He.ga K x) m)))) && PySem.W.isFn K (.ref (He.ma K (He.ga K x) m))
def dB (K : PySem.W.Frag) (d : He.FnD) : Bool := stB K d.at_ && (PySem.W.keepIn K (.ref (He.fAd K d.at_)) && (He.Fa.code d.at_ d.qual).ok K)
abbrev AlH : Type := Bool × (List He.FnV × List (Option (List (Option (Str × Int)))))
def obsK (D : Hd) (K : PySem.W.Frag) : AlH := ((D.fa.all fun f => f.ok K) && ((D.fn.all fun d => dB K d) && D.ex K), (D.fn.map fun d => He.fnObs K d.at_, D.ts.map fun t => He.dicW K (t.1 K)))
def valK (D : Hd) (w : World) : AlH := (true, (D.fn.map He.FnD.val, D.ts.map fun t => some (He.keysIn w.params t.2)))
def obsH (D : Hd) (g : Addr → Option Obj) : AlH := obsK D (He.frG g (asH g D.xs))
def SaysH (D : Hd) (w : World) (K : PySem.W.Frag) : Prop := obsK D K = valK D w
def hookH (D : Hd) : PySem.W.Hook where
  α := AlH
  obs := fun s => obsH D s.heap.get?
  val := fun w => valK D w
  says := fun w h => ∃ K : PySem.W.Frag, K.In h ∧ SaysH D w K
  of := fun _ _ e => ⟨_, He.frG_in, e⟩
  keeps := fun _ _ _ ⟨K, hK, c⟩ k => ⟨K, PySem.W.Frag.In.keeps hK k, c⟩
theorem obsH_eq {D : Hd} {g : Addr → Option Obj} {s : Shared} (h : ∀ a, g a = s.heap.get? a) : obsH D g = (hookH D).obs s := by
  have e : g = s.heap.get? := funext h
  rw [e] <;> rfl
/-! ### a dict of the module -/
def relOB : Option V → Option Value → Bool
  | none, none => true
  | some v, some u => He.relB v u
  | _, _ => false
def esOf (K : PySem.W.Frag) (a : Addr) : List DictEntry := match K.lookup a with
  | some ⟨_, _, .dict es _, _⟩ => es.toList
  | _ => []
/-- the entries are these, in order -/
def entB : List (Str × V) → List DictEntry → Bool
  | [], [] => true
  | q :: r, e :: s => Value.isStrOf q.1 e.key && (He.relB q.2 e.val && entB r s)
  | _, _ => false
end Aw

set_option maxHeartbeats 0
namespace Aw
open PySem PySem.Spec PyProof.Rows L2
/-! ### the head: what is looked at, the run -/
def hdFn0 : List He.FnD := [⟨("is_plain", none), "is_plain", "is_plain", defArgs (topS 16), defBody (topS 16), defScope (topS 16)⟩,
  ⟨("room_left", none), "room_left", "room_left", defArgs (topS 17), defBody (topS 17), defScope (topS 17)⟩,
  ⟨("is_tree", none), "is_tree", "is_tree", defArgs (topS 18), defBody (topS 18), defScope (topS 18)⟩,
  ⟨("is_name", none), "is_name", "is_name", defArgs (topS 19), defBody (topS 19), defScope (topS 19)⟩,
  ⟨("box_in", none), "box_in", "box_in", defArgs (topS 25), defBody (topS 25), defScope (topS 25)⟩,
  ⟨("line_number_in", none), "line_number_in", "line_number_in", defArgs (topS 26), defBody (topS 26), defScope (topS 26)⟩,
  ⟨("text_line", none), "text_line", "text_line", defArgs (topS 27), defBody (topS 27), defScope (topS 27)⟩,
  ⟨("line_row", none), "line_row", "line_row", defArgs (topS 28), defBody (topS 28), defScope (topS 28)⟩,
  ⟨("bad_line", none), "bad_line", "bad_line", defArgs (topS 29), defBody (topS 29), defScope (topS 29)⟩,
  ⟨("is_rule", none), "is_rule", "is_rule", defArgs (topS 30), defBody (topS 30), defScope (topS 30)⟩,
  ⟨("rule_rows", none), "rule_rows", "rule_rows", defArgs (topS 31), defBody (topS 31), defScope (topS 31)⟩,
  ⟨("is_answer", none), "is_answer", "is_answer", defArgs (topS 36), defBody (topS 36), defScope (topS 36)⟩]
def hdFn1 : List He.FnD := [⟨("joined_up", none), "joined_up", "joined_up", defArgs (topS 37), defBody (topS 37), defScope (topS 37)⟩,
  ⟨("parted_by", none), "parted_by", "parted_by", defArgs (topS 38), defBody (topS 38), defScope (topS 38)⟩,
  ⟨("glued_by", none), "glued_by", "glued_by", defArgs (topS 39), defBody (topS 39), defScope (topS 39)⟩,
  ⟨("taken_from", none), "taken_from", "taken_from", defArgs (topS 40), defBody (topS 40), defScope (topS 40)⟩,
  ⟨("made_by", none), "made_by", "made_by", defArgs (topS 41), defBody (topS 41), defScope (topS 41)⟩,
  ⟨("goes_there", none), "goes_there", "goes_there", defArgs (topS 42), defBody (topS 42), defScope (topS 42)⟩,
  ⟨("Machine", some "__init__"), "__init__", "Machine.__init__", defArgs (inClass (topS 43) 0), defBody (inClass (topS 43) 0), defScope (inClass (topS 43) 0)⟩,
  ⟨("Machine", some "now"), "now", "Machine.now", defArgs (inClass (topS 43) 5), defBody (inClass (topS 43) 5), defScope (inClass (topS 43) 5)⟩,
  ⟨("Machine", some "asked"), "asked", "Machine.asked", defArgs (inClass (topS 43) 7), defBody (inClass (topS 43) 7), defScope (inClass (topS 43) 7)⟩,
  ⟨("Machine", some "answer"), "answer", "Machine.answer", defArgs (inClass (topS 43) 6), defBody (inClass (topS 43) 6), defScope (inClass (topS 43) 6)⟩,
  ⟨("Machine", some "fill"), "fill", "Machine.fill", defArgs (inClass (topS 43) 4), defBody (inClass (topS 43) 4), defScope (inClass (topS 43) 4)⟩,
  ⟨("Machine", some "wait_at"), "wait_at", "Machine.wait_at", defArgs (inClass (topS 43) 3), defBody (inClass (topS 43) 3), defScope (inClass (topS 43) 3)⟩]
def hdFn2 : List He.FnD := [⟨("Machine", some "do_line"), "do_line", "Machine.do_line", defArgs (inClass (topS 43) 2), defBody (inClass (topS 43) 2), defScope (inClass (topS 43) 2)⟩,
  ⟨("Machine", some "go_on"), "go_on", "Machine.go_on", defArgs (inClass (topS 43) 1), defBody (inClass (topS 43) 1), defScope (inClass (topS 43) 1)⟩,
  ⟨("look_at_asked_name", none), "look_at_asked_name", "look_at_asked_name", defArgs (topS 45), defBody (topS 45), defScope (topS 45)⟩,
  ⟨("answer_by", none), "answer_by", "answer_by", defArgs (topS 46), defBody (topS 46), defScope (topS 46)⟩,
  ⟨("PlainWalk", some "__init__"), "__init__", "PlainWalk.__init__", defArgs (inClass (topS 47) 0), defBody (inClass (topS 47) 0), defScope (inClass (topS 47) 0)⟩,
  ⟨("PlainWalk", some "answer"), "answer", "PlainWalk.answer", defArgs (inClass (topS 47) 1), defBody (inClass (topS 47) 1), defScope (inClass (topS 47) 1)⟩,
  ⟨("PlainWalk", some "asked"), "asked", "PlainWalk.asked", defArgs (inClass (topS 47) 2), defBody (inClass (topS 47) 2), defScope (inClass (topS 47) 2)⟩,
  ⟨("PlainWalk", some "gone_through"), "gone_through", "PlainWalk.gone_through", defArgs (inClass (topS 47) 3), defBody (inClass (topS 47) 3), defScope (inClass (topS 47) 3)⟩,
  ⟨("PlainWalk", some "run_by"), "run_by", "PlainWalk.run_by", defArgs (inClass (topS 47) 4), defBody (inClass (topS 47) 4), defScope (inClass (topS 47) 4)⟩,
  ⟨("plain_walk", none), "plain_walk", "plain_walk", defArgs (topS 48), defBody (topS 48), defScope (topS 48)⟩,
  ⟨("answer_of", none), "answer_of", "answer_of", defArgs (topS 49), defBody (topS 49), defScope (topS 49)⟩,
  ⟨("full_run", none), "full_run", "full_run", defArgs (topS 50), defBody (topS 50), defScope (topS 50)⟩]
def hdFn3 : List He.FnD := [⟨("met_by", none), "met_by", "met_by", defArgs (topS 51), defBody (topS 51), defScope (topS 51)⟩,
  ⟨("paper_of", none), "paper_of", "paper_of", defArgs (topS 53), defBody (topS 53), defScope (topS 53)⟩,
  ⟨("foot_of", none), "foot_of", "foot_of", defArgs (topS 55), defBody (topS 55), defScope (topS 55)⟩,
  ⟨("alike_on", none), "alike_on", "alike_on", defArgs (topS 61), defBody (topS 61), defScope (topS 61)⟩,
  ⟨("is_source", none), "is_source", "is_source", defArgs (topS 58), defBody (topS 58), defScope (topS 58)⟩,
  ⟨("Project", some "__init__"), "__init__", "Project.__init__", defArgs (inClass (topS 59) 0), defBody (inClass (topS 59) 0), defScope (inClass (topS 59) 0)⟩,
  ⟨("Project", some "source_of"), "source_of", "Project.source_of", defArgs (inClass (topS 59) 2), defBody (inClass (topS 59) 2), defScope (inClass (topS 59) 2)⟩,
  ⟨("Project", some "looked_up"), "looked_up", "Project.looked_up", defArgs (inClass (topS 59) 3), defBody (inClass (topS 59) 3), defScope (inClass (topS 59) 3)⟩,
  ⟨("names_row", none), "names_row", "names_row", defArgs (topS 60), defBody (topS 60), defScope (topS 60)⟩,
  ⟨("_law_cell_at", none), "_law_cell_at", "_law_cell_at", defArgs (topS 63), defBody (topS 63), defScope (topS 63)⟩,
  ⟨("_law_pot", none), "_law_pot", "_law_pot", defArgs (topS 64), defBody (topS 64), defScope (topS 64)⟩,
  ⟨("_law_take", none), "_law_take", "_law_take", defArgs (topS 65), defBody (topS 65), defScope (topS 65)⟩]
def hdFn4 : List He.FnD := [⟨("_law_word", none), "_law_word", "_law_word", defArgs (topS 66), defBody (topS 66), defScope (topS 66)⟩,
  ⟨("_law_line", none), "_law_line", "_law_line", defArgs (topS 67), defBody (topS 67), defScope (topS 67)⟩,
  ⟨("_law_rule", none), "_law_rule", "_law_rule", defArgs (topS 68), defBody (topS 68), defScope (topS 68)⟩,
  ⟨("_law_maker", none), "_law_maker", "_law_maker", defArgs (topS 69), defBody (topS 69), defScope (topS 69)⟩,
  ⟨("_law_leaf", none), "_law_leaf", "_law_leaf", defArgs (topS 70), defBody (topS 70), defScope (topS 70)⟩,
  ⟨("_law_source", none), "_law_source", "_law_source", defArgs (topS 71), defBody (topS 71), defScope (topS 71)⟩,
  ⟨("_law_sources", none), "_law_sources", "_law_sources", defArgs (topS 72), defBody (topS 72), defScope (topS 72)⟩,
  ⟨("_law_changed", none), "_law_changed", "_law_changed", defArgs (topS 73), defBody (topS 73), defScope (topS 73)⟩,
  ⟨("_law_is_alike", none), "_law_is_alike", "_law_is_alike", defArgs (topS 74), defBody (topS 74), defScope (topS 74)⟩,
  ⟨("_law_right", none), "_law_right", "_law_right", defArgs (topS 75), defBody (topS 75), defScope (topS 75)⟩,
  ⟨("law", none), "law", "law", defArgs (topS 76), defBody (topS 76), defScope (topS 76)⟩]
def hdFn : List He.FnD := hdFn0 ++ hdFn1 ++ hdFn2 ++ hdFn3 ++ hdFn4
def hdFa0 : List He.Fa := [.free "isinstance",
  .free "str",
  .free "int",
  .free "tuple",
  .free "list",
  .free "bool",
  .free "len",
  .free "all",
  .free "any",
  .free "sum",
  .free "min",
  .free "max"]
def hdFa1 : List He.Fa := [.free "abs",
  .free "range",
  .free "enumerate",
  .free "sorted",
  .int "MOST_SIGNS" 300,
  .int "MOST_PARTS" 40,
  .int "MOST_SIZE" 600,
  .int "MOST_DEEP" 12,
  .int "MOST_NAME" 24,
  .int "MOST_THINGS" 60,
  .int "MOST_LINES_rules" 40,
  .int "MOST_LINES_machine" 300]
def hdFa2 : List He.Fa := [.str "LETTERS" "abcdefghijklmnopqrstuvwxyz",
  .str "NAME_SIGNS" "abcdefghijklmnopqrstuvwxyz0123456789./",
  .str "BOXES_rules" "abcdefgh",
  .str "FIGURES" "0123456789",
  .str "BOXES_machine" "abcdefgh",
  .glo "LINE_FORMS",
  .glo "ASKED_BY",
  .cls "Project",
  .noat "Project" "table",
  .glo "Project",
  .mkr "Project",
  .cls "Machine"]
def hdFa3 : List He.Fa := [.noat "Machine" "rows",
  .noat "Machine" "rule",
  .noat "Machine" "own",
  .noat "Machine" "boxes",
  .noat "Machine" "asks",
  .noat "Machine" "at",
  .noat "Machine" "done",
  .noat "Machine" "state",
  .glo "Machine",
  .mkr "Machine",
  .cls "PlainWalk",
  .noat "PlainWalk" "of_project"]
def hdFa4 : List He.Fa := [.noat "PlainWalk" "full_runs",
  .noat "PlainWalk" "open_names",
  .glo "PlainWalk",
  .mkr "PlainWalk",
  .free "dict"]
def hdFa : List He.Fa := hdFa0 ++ hdFa1 ++ hdFa2 ++ hdFa3 ++ hdFa4
def hdXs0 : List Str := ["is_plain",
  "room_left",
  "is_tree",
  "is_name",
  "box_in",
  "line_number_in",
  "text_line",
  "line_row",
  "bad_line",
  "is_rule",
  "rule_rows",
  "is_answer"]
def hdXs1 : List Str := ["joined_up",
  "parted_by",
  "glued_by",
  "taken_from",
  "made_by",
  "goes_there",
  "Machine",
  "look_at_asked_name",
  "answer_by",
  "PlainWalk",
  "plain_walk",
  "answer_of"]
def hdXs2 : List Str := ["full_run",
  "met_by",
  "paper_of",
  "foot_of",
  "alike_on",
  "is_source",
  "Project",
  "names_row",
  "_law_cell_at",
  "_law_pot",
  "_law_take",
  "_law_word"]
def hdXs3 : List Str := ["_law_line",
  "_law_rule",
  "_law_maker",
  "_law_leaf",
  "_law_source",
  "_law_sources",
  "_law_changed",
  "_law_is_alike",
  "_law_right",
  "law",
  "LINE_FORMS",
  "ASKED_BY"]
def hdXs : List Str := hdXs0 ++ hdXs1 ++ hdXs2 ++ hdXs3
def hdTs : List He.Tab := [(fun K => He.ga K "LINE_FORMS", ["self", "copy", "row", "put", "join", "first", "rest", "size", "cut", "glue", "ask", "has", "names", "go", "like", "rowed", "none", "say", "fault"]), (fun K => He.ga K "ASKED_BY", ["ask", "has", "names"])]
def hdEx (K : PySem.W.Frag) : Bool := (entB ([("self", .str "b"), ("copy", .str "bb"), ("row", .str "b"), ("put", .str "bb"), ("join", .str "bb"), ("first", .str "bb"), ("rest", .str "bb"), ("size", .str "bb"), ("cut", .str "bbb"), ("glue", .str "bbb"), ("ask", .str "bb"), ("has", .str "bb"), ("names", .str "bb"), ("go", .str "n"), ("like", .str "bbn"), ("rowed", .str "bn"), ("none", .str "bn"), ("say", .str "b"), ("fault", .str "")] : List (Str × V)) (esOf K (He.ga K "LINE_FORMS")) && (entB ([("ask", .str "thing"), ("has", .str "has"), ("names", .str "names")] : List (Str × V)) (esOf K (He.ga K "ASKED_BY")) && true))
def hd : Hd := ⟨hdXs, hdFa, hdFn, hdTs, hdEx⟩
abbrev hdR : PySem.W.OpenRow := PySem.W.OpenLaw.row PySem.Challenge.rw_askwright_k66_whole_alike_on_feet
abbrev hdK : PySem.W.Hook := hookH hd
def hdOb (s : PySem.W.SharedT) : AlH := obsH hd (HandSHeadRun.getT s)
theorem hdOb_eq (s : PySem.W.SharedT) : hdOb s = hdK.obs s.abs := obsH_eq (HandSHeadRun.getT_eq s)
def hdN0 : List Str := ["WrightError", "BadName", "BadRule", "NoAsk", "BadAnswer", "NoThing", "BadThing", "MOST_SIGNS", "MOST_PARTS", "MOST_SIZE", "MOST_DEEP", "MOST_NAME", "LETTERS", "NAME_SIGNS", "is_plain"]
def hdN1 : List Str := ["room_left", "is_tree", "is_name", "BOXES_rules", "FIGURES", "MOST_LINES_rules", "LINE_FORMS", "box_in", "line_number_in", "text_line", "line_row", "bad_line", "is_rule", "rule_rows", "BOXES_machine"]
def hdN2 : List Str := ["MOST_LINES_machine", "ASKED_BY", "is_answer", "joined_up", "parted_by", "glued_by", "taken_from", "made_by", "goes_there", "Machine", "look_at_asked_name", "answer_by", "PlainWalk", "plain_walk", "answer_of"]
def hdN3 : List Str := ["full_run", "met_by", "paper_of", "foot_of", "MOST_THINGS", "is_source", "Project", "names_row", "alike_on", "_law_cell_at", "_law_pot", "_law_take", "_law_word", "_law_line", "_law_rule"]
def hdN4 : List Str := ["_law_maker", "_law_leaf", "_law_source", "_law_sources", "_law_changed", "_law_is_alike", "_law_right"]
def hdN : List Str := hdN0 ++ hdN1 ++ hdN2 ++ hdN3 ++ hdN4
abbrev hdV : Program := PySem.W.view hdR.prog [76]
theorem hdRunF (w : World) : HandSHeadRun.RunEq hdR hdV hdK hdOb 6000 hdN (World.withFollow w "special-get-raises" false) := by
  intro os
  kernel_rfl
theorem hdRunT (w : World) : HandSHeadRun.RunEq hdR hdV hdK hdOb 6000 hdN (World.withFollow w "special-get-raises" true) := by
  intro os
  kernel_rfl
theorem hdRun (w : World) : HandSHeadRun.RunEq hdR hdV hdK hdOb 6000 hdN w := PySem.W.byRow2 "special-get-raises" (P := fun w => HandSHeadRun.RunEq hdR hdV hdK hdOb 6000 hdN w) hdRunF hdRunT w
end Aw

namespace Aw
open PySem PySem.Spec PyProof.Rows L2

/-! ### heaps: what stays -/
/-- all but l stays -/
def Bt (l : Addr) (H H' : Hp) : Prop := ∀ b o, b ≠ l → H b = some o → H' b = some o
/-- tuples stay -/
structure Stay (H H' : Hp) : Prop where
  t : ∀ b xs, H b = some (.tup xs) → H' b = some (.tup xs)
  z : ∀ b o u, H b = some (.frz o u) → H' b = some (.frz o u)
theorem Stay.refl (H : Hp) : Stay H H := ⟨fun _ _ h => h, fun _ _ _ h => h⟩
theorem Stay.trans {H H1 H2 : Hp} (a : Stay H H1) (b : Stay H1 H2) : Stay H H2 := ⟨fun x xs h => b.t _ _ (a.t _ _ h), fun x o u h => b.z _ _ _ (a.z _ _ _ h)⟩
theorem Stay.same {H H' : Hp} (a : Same H H') : Stay H H' := ⟨fun b xs h => a _ _ h, fun b o u h => a _ _ h⟩
theorem Bt.ne {H H' : Hp} {l b : Addr} {o u : HO} (h : Bt l H H') (hl : H l = some o) (hb : H b = some u) (d : u ≠ o) : H' b = some u :=
  h b u (ne_of hb hl d) hb
theorem Stay.but {H H' : Hp} {l : Addr} {xs : List V} (a : Bt l H H') (h : H l = some (.lst xs)) : Stay H H' :=
  ⟨fun b ys e => a.ne h e (fun z => nomatch z), fun b o u e => a.ne h e (fun z => nomatch z)⟩
theorem Bt.upd {H : Hp} {l : Addr} {o : HO} : Bt l H (upd H l o) := fun b u n e => by rw [upd_ne n]; exact e
theorem same_new {H : Hp} {p : Addr} (h : H p = none) (o : HO) : Same H (L2.upd H p o) := fun b u q => by rw [upd_ne (ne_of_none q h)]; exact q
theorem Same.but {H0 H H' : Hp} {l : Addr} (a : Same H0 H) (f : H0 l = none) (b : Bt l H H') : Same H0 H' := fun c o e => b c o (ne_of_none e f) (a c o e)
theorem sqT_tt {K : PySem.W.Frag} {H H' : Hp} {a : Addr} {xs : List V} (t : Stay H H') (h : SqT K H a xs) : SqT K H' a xs := by
  rcases h with (h | ⟨o, h⟩) | h
  · exact .inl (.inl (t.t _ _ h))
  · exact .inl (.inr ⟨o, t.z _ _ _ h⟩)
  · exact .inr h

/-! ### immutable data -/
mutual
def Dt (K : PySem.W.Frag) (H : Hp) : PyData → V → Prop
  | .none, v => v = .non
  | .bool b, v => v = .bl b
  | .int i, v => v = .int i
  | .str s, v => v = .str s
  | .tuple ds, v => ∃ a xs, v = .ref a ∧ H a = some (.tup xs) ∧ Dts K H ds xs
  | .list _, _ => False
  | .dict _, _ => False
def Dts (K : PySem.W.Frag) (H : Hp) : List PyData → List V → Prop
  | [], xs => xs = []
  | d :: ds, xs => ∃ v vs, xs = v :: vs ∧ Dt K H d v ∧ Dts K H ds vs
end
section
variable {K : PySem.W.Frag} {H H' : Hp}
mutual
theorem Dt.mono (t : Stay H H') : ∀ {d : PyData} {v : V}, Dt K H d v → Dt K H' d v
  | .none, _, h => by unfold Dt at h ⊢; exact h
  | .bool _, _, h => by unfold Dt at h ⊢; exact h
  | .int _, _, h => by unfold Dt at h ⊢; exact h
  | .str _, _, h => by unfold Dt at h ⊢; exact h
  | .tuple ds, _, h => by
    unfold Dt at h ⊢
    obtain ⟨a, xs, e, s, q⟩ := h
    exact ⟨a, xs, e, t.t _ _ s, Dts.mono t q⟩
  | .list _, _, h => by unfold Dt at h; exact h.elim
  | .dict _, _, h => by unfold Dt at h; exact h.elim
theorem Dts.mono (t : Stay H H') : ∀ {ds : List PyData} {vs : List V}, Dts K H ds vs → Dts K H' ds vs
  | [], _, h => by unfold Dts at h ⊢; exact h
  | d :: ds, _, h => by
    unfold Dts at h ⊢
    obtain ⟨v, vs, e, q, r⟩ := h
    exact ⟨v, vs, e, Dt.mono t q, Dts.mono t r⟩
end
mutual
theorem Dt.dp : ∀ {d : PyData} {v : V}, Dt K H d v → Dp K H v d
  | .none, _, h => by unfold Dt at h; subst h; exact .non
  | .bool _, _, h => by unfold Dt at h; subst h; exact .bl _
  | .int _, _, h => by unfold Dt at h; subst h; exact .int _
  | .str _, _, h => by unfold Dt at h; subst h; exact .str _
  | .tuple ds, _, h => by
    unfold Dt at h
    obtain ⟨a, xs, e, s, q⟩ := h
    subst e
    exact .tup (.inl (.inl s)) (Dts.dp q)
  | .list _, _, h => by unfold Dt at h; exact h.elim
  | .dict _, _, h => by unfold Dt at h; exact h.elim
theorem Dts.dp : ∀ {ds : List PyData} {vs : List V}, Dts K H ds vs → DpAll K H vs ds
  | [], _, h => by unfold Dts at h; subst h; exact .nil
  | d :: ds, _, h => by
    unfold Dts at h
    obtain ⟨v, vs, e, q, r⟩ := h
    subst e
    exact .cons (Dt.dp q) (Dts.dp r)
end
theorem dt_str {s : Str} : Dt K H (.str s) (.str s) := by unfold Dt; rfl
theorem dt_int {i : Int} : Dt K H (.int i) (.int i) := by unfold Dt; rfl
theorem dt_bl {b : Bool} : Dt K H (.bool b) (.bl b) := by unfold Dt; rfl
theorem dt_non : Dt K H .none .non := by unfold Dt; rfl
theorem dt_tupX {a : Addr} {xs : List V} {ds : List PyData} (s : H a = some (.tup xs)) (q : Dts K H ds xs) : Dt K H (.tuple ds) (.ref a) := by unfold Dt; exact ⟨a, xs, rfl, s, q⟩
theorem dt_tup {a : Addr} {xs : List V} {ds : List PyData} (s : (H a = some (.tup xs) ∨ False) ∨ False) (q : Dts K H ds xs) : Dt K H (.tuple ds) (.ref a) := by unfold Dt; exact ⟨a, xs, rfl, s.elim (fun h => h.elim id False.elim) False.elim, q⟩
theorem dts_nil : Dts K H [] [] := by unfold Dts; rfl
theorem dts_cons {d : PyData} {v : V} {ds : List PyData} {vs : List V} (h : Dt K H d v) (r : Dts K H ds vs) : Dts K H (d :: ds) (v :: vs) := by unfold Dts; exact ⟨v, vs, rfl, h, r⟩
theorem Dt.str {s : Str} {v : V} (h : Dt K H (.str s) v) : v = .str s := by unfold Dt at h; exact h
theorem Dt.int {s : Int} {v : V} (h : Dt K H (.int s) v) : v = .int s := by unfold Dt at h; exact h
theorem Dt.non {v : V} (h : Dt K H .none v) : v = .non := by unfold Dt at h; exact h
theorem Dt.tupX {ds : List PyData} {v : V} (h : Dt K H (.tuple ds) v) : ∃ a xs, v = .ref a ∧ H a = some (.tup xs) ∧ Dts K H ds xs := by unfold Dt at h; exact h
theorem Dt.tup {ds : List PyData} {v : V} (h : Dt K H (.tuple ds) v) : ∃ a xs, v = .ref a ∧ SqT K H a xs ∧ Dts K H ds xs := let ⟨a, xs, e, s, q⟩ := h.tupX; ⟨a, xs, e, .inl (.inl s), q⟩
theorem Dts.nil {vs : List V} (h : Dts K H [] vs) : vs = [] := by unfold Dts at h; exact h
theorem Dts.cons {d : PyData} {ds : List PyData} {vs : List V} (h : Dts K H (d :: ds) vs) : ∃ v r, vs = v :: r ∧ Dt K H d v ∧ Dts K H ds r := by unfold Dts at h; exact h
theorem Dts.length : ∀ {ds : List PyData} {vs : List V}, Dts K H ds vs → vs.length = ds.length
  | [], _, h => by rw [h.nil]; rfl
  | d :: ds, _, h => by
    obtain ⟨v, r, rfl, _, q⟩ := h.cons
    rw [List.length_cons, List.length_cons, Dts.length q]
theorem Dts.get : ∀ {ds : List PyData} {vs : List V} {i : Nat} {v : V}, Dts K H ds vs → vs[i]? = some v → ∃ d, ds[i]? = some d ∧ Dt K H d v
  | [], _, i, v, h, e => by rw [h.nil] at e; simp at e
  | d :: ds, _, 0, v, h, e => by
    obtain ⟨u, r, rfl, q, _⟩ := h.cons
    have e : u = v := Option.some.inj e
    subst e
    exact ⟨d, rfl, q⟩
  | d :: ds, _, i + 1, v, h, e => by
    obtain ⟨u, r, rfl, _, q⟩ := h.cons
    exact Dts.get (ds := ds) q (i := i) e
theorem Dts.at' : ∀ {ds : List PyData} {vs : List V} {i : Nat} {d : PyData}, Dts K H ds vs → ds[i]? = some d → ∃ v, vs[i]? = some v ∧ Dt K H d v := fun {ds vs i d} h e => by
  have hl := h.length
  obtain ⟨hi, _⟩ := List.getElem?_eq_some_iff.mp e
  have hv : vs[i]? = some vs[i] := List.getElem?_eq_getElem (by omega)
  obtain ⟨d', e', q⟩ := h.get hv
  rw [e] at e'
  cases e'
  exact ⟨_, hv, q⟩
theorem Dts.snoc : ∀ {ds : List PyData} {vs : List V} {d : PyData} {v : V}, Dts K H ds vs → Dt K H d v → Dts K H (ds ++ [d]) (vs ++ [v])
  | [], _, _, _, h, q => by rw [h.nil]; exact dts_cons q dts_nil
  | e :: ds, _, _, _, h, q => by
    obtain ⟨u, r, rfl, p, k⟩ := h.cons
    exact dts_cons p (Dts.snoc k q)
theorem Dts.append : ∀ {ds es : List PyData} {vs us : List V}, Dts K H ds vs → Dts K H es us → Dts K H (ds ++ es) (vs ++ us)
  | [], _, _, _, h, q => by rw [h.nil]; exact q
  | e :: ds, _, _, _, h, q => by
    obtain ⟨u, r, rfl, p, k⟩ := h.cons
    exact dts_cons p (Dts.append k q)
theorem dts_strs : ∀ {ss : List Str}, Dts K H (ss.map .str) (ss.map V.str)
  | [] => dts_nil
  | s :: ss => dts_cons dt_str dts_strs
end

/-! ### universal operators, by the values -/
section
variable {X : Cx}
def rAddI : R2 := rI0 fun i j => .int (i + j)
def rAddS : R2 := fun x y H Q => ∃ i j, x = .str i ∧ y = .str j ∧ i.length + j.length ≤ sizeLine ∧ Q (.str (i ++ j)) H
def rAddU (K : PySem.W.Frag) : R2 := fun x y H Q => rAddI x y H Q ∨ (rAddS x y H Q ∨ (rCatA K x y H Q ∨ rCat x y H Q))
theorem op_addU0 : OpR X (binaryOp .Add) (rAddU X.K) := OpR.or op_add (OpR.or op_add_str (OpR.or op_catA op_cat))
def rSubI : R2 := rI0 fun i j => .int (i - j)
theorem op_subU : OpR X (binaryOp .Sub) rSubI := op_sub
def rModI : R2 := rI (fun _ j => j ≠ 0) fun i j => .int (i.fmod j)
theorem op_modU : OpR X (binaryOp .Mod) rModI := op_modN
def rFdvI : R2 := rI CDivN fun i j => .int (i.fdiv j)
theorem op_fdvU : OpR X (binaryOp .FloorDiv) rFdvI := op_fdivN
def rMulS : R2 := fun x y H Q => ∃ z i, x = .str z ∧ y = .int i ∧ PySem.MulOk z i ∧ Q (.str (Txt.mul z i)) H
theorem op_mulS : OpR X (binaryOp .Mult) rMulS := by
  intro pins s σ H x y v u Q I rx ry h
  obtain ⟨z, i, rfl, rfl, ok, q⟩ := h
  obtain ⟨t, rfl⟩ := rx
  obtain ⟨t', rfl⟩ := ry
  exact PySem.SB.mul ok fun t'' k => ⟨.str _, H, I.tok _, ⟨_, rfl⟩, q⟩
def rMulI : R2 := rI CMul fun i j => .int (i * j)
def rMulU : R2 := fun x y H Q => rMulI x y H Q ∨ rMulS x y H Q
theorem op_mulU : OpR X (binaryOp .Mult) rMulU := OpR.or op_mul op_mulS
def rPowI : R2 := rI CPow fun i j => .int (i ^ j.toNat)
theorem op_powU : OpR X (binaryOp .Pow) rPowI := op_pow
def rIpAdd : TIp := fun x y H Q => rAddI x y H Q ∨ rAddS x y H Q
theorem ip_addU : PIp X .Add rIpAdd := OpR.or iop_add iop_add_str
def rEqU (K : PySem.W.Frag) : R2 := fun x y H Q => rEq x y H Q ∨ rEqD K x y H Q
theorem op_eqU0 (hu : X.A.units + 64 < cLine) : OpR X (compareOp .Eq) (rEqU X.K) := OpR.or op_eq (op_eqD hu)
def rNeU (K : PySem.W.Frag) : R2 := fun x y H Q => rNe x y H Q ∨ rNeD K x y H Q
theorem op_neU0 (hu : X.A.units + 64 < cLine) : OpR X (compareOp .NotEq) (rNeU X.K) := OpR.or op_ne (op_neD hu)
def rLtS : R2 := fun x y H Q => ∃ i j, x = .str i ∧ y = .str j ∧ Q (.bl (decide (i.cps.toList < j.cps.toList))) H
def rLeS : R2 := fun x y H Q => ∃ i j, x = .str i ∧ y = .str j ∧ Q (.bl (!decide (j.cps.toList < i.cps.toList))) H
def rGtS : R2 := fun x y H Q => ∃ i j, x = .str i ∧ y = .str j ∧ Q (.bl (decide (j.cps.toList < i.cps.toList))) H
def rGeS : R2 := fun x y H Q => ∃ i j, x = .str i ∧ y = .str j ∧ Q (.bl (!decide (i.cps.toList < j.cps.toList))) H
def rLtI : R2 := rI0 fun i j => .bl (decide (i < j))
def rLeI : R2 := rI0 fun i j => .bl (decide (i ≤ j))
def rGtI : R2 := rI0 fun i j => .bl (decide (i > j))
def rGeI : R2 := rI0 fun i j => .bl (decide (i ≥ j))
def rLtU : R2 := fun x y H Q => rLtI x y H Q ∨ rLtS x y H Q
def rLeU : R2 := fun x y H Q => rLeI x y H Q ∨ rLeS x y H Q
def rGtU : R2 := fun x y H Q => rGtI x y H Q ∨ rGtS x y H Q
def rGeU : R2 := fun x y H Q => rGeI x y H Q ∨ rGeS x y H Q
theorem op_ltU : OpR X (compareOp .Lt) rLtU := OpR.or op_lt op_lt_str
theorem op_leU : OpR X (compareOp .LtE) rLeU := OpR.or op_le op_le_str
theorem op_gtU : OpR X (compareOp .Gt) rGtU := OpR.or op_gt op_gt_str
theorem op_geU : OpR X (compareOp .GtE) rGeU := OpR.or op_ge op_ge_str
def rInC : R2 := fun x y H Q => ∃ (c : Nat) (z : Str), x = .str ⟨#[c]⟩ ∧ y = .str z ∧ Q (.bl (decide (c ∈ z.cps.toList))) H
def rNinC : R2 := fun x y H Q => ∃ (c : Nat) (z : Str), x = .str ⟨#[c]⟩ ∧ y = .str z ∧ Q (.bl (!decide (c ∈ z.cps.toList))) H
def rInU (K : PySem.W.Frag) : R2 := fun x y H Q => rInC x y H Q ∨ rIn K false x y H Q
def rNinU (K : PySem.W.Frag) : R2 := fun x y H Q => rNinC x y H Q ∨ rIn K true x y H Q
theorem op_inU0 : OpR X (compareOp .In) (rInU X.K) := OpR.or op_in_sign op_in_seq
theorem op_ninU0 : OpR X (compareOp .NotIn) (rNinU X.K) := OpR.or op_notIn_sign op_notIn_seq
def rIsNo : R2 := fun x y H Q => y = .non ∧ Q (.bl (decide (x = .non))) H
def rNotNo : R2 := fun x y H Q => y = .non ∧ Q (.bl (!decide (x = .non))) H
theorem op_isNo : OpR X (compareOp .Is) rIsNo := op_isN
theorem op_notNo : OpR X (compareOp .IsNot) rNotNo := op_notN
def rSlU (K : PySem.W.Frag) : V → Option Int → Option Int → Hp → VK → Prop := fun x lo hi H Q => rSlL K x lo hi H Q ∨ (rSlA K x lo hi H Q ∨ rSlS x lo hi H Q)
theorem sl_U0 : SlR X (rSlU X.K) := SlR.or sl_list (SlR.or sl_tupA sl_str)
def rLenU (K : PySem.W.Frag) : List V → Hp → VK → Prop := fun xs H Q => (∃ x n, xs = [x] ∧ LenV K x H n ∧ Q (.int n) H) ∨ ∃ a kvs, xs = [V.ref a] ∧ H a = some (.dK kvs) ∧ Q (.int kvs.length) H
theorem call_lenU0 : CallR X (.builtin "len") (rLenU X.K) := CallR.or call_len call_lenD
def rTupOf (K : PySem.W.Frag) : List V → Hp → VK → Prop := fun xs H Q => ∃ p ys, xs = [.ref p] ∧ ((SqL K H p ys ∧ ∀ l, H l = none → Q (.ref l) (upd H l (.tup ys))) ∨ (SqT K H p ys ∧ Q (.ref p) H))
theorem call_tupU0 : CallR X (.type "tuple") (rTupOf X.K) := call_tuple_of
def rIntU : List V → Hp → VK → Prop := fun xs H Q => (∃ i, xs = [.int i] ∧ Q (.int i) H) ∨ ∃ k, xs = [.bl k] ∧ Q (.int (if k then 1 else 0)) H
theorem call_intU : CallR X (.type "int") rIntU := call_int1
def rStrI : List V → Hp → VK → Prop := fun xs H Q => ∃ i, xs = [.int i] ∧ i.natAbs.log2 < 1920 ∧ Q (.str (toString i)) H
theorem call_strU : CallR X (.type "str") rStrI := call_str_int
def rAbs : List V → Hp → VK → Prop := fun xs H Q => ∃ i, xs = [.int i] ∧ Q (.int (if i < 0 then -i else i)) H
theorem call_absU : CallR X (.builtin "abs") rAbs := call_abs
def rMin2 : List V → Hp → VK → Prop := fun xs H Q => ∃ i j, xs = [.int i, .int j] ∧ Q (.int (if j < i then j else i)) H
theorem call_minU (hc : X.calm = true) : CallR X (.builtin "min") rMin2 := call_min2 hc
def rMax2 : List V → Hp → VK → Prop := fun xs H Q => ∃ i j, xs = [.int i, .int j] ∧ Q (.int (if j > i then j else i)) H
theorem call_maxU (hc : X.calm = true) : CallR X (.builtin "max") rMax2 := call_max2 hc
end

section
variable {X : Cx} (K : PySem.W.Frag)
theorem op_addU (h : X.K = K := by rfl) : OpR X (binaryOp .Add) (rAddU K) := h ▸ op_addU0
theorem op_inU (h : X.K = K := by rfl) : OpR X (compareOp .In) (rInU K) := h ▸ op_inU0
theorem op_ninU (h : X.K = K := by rfl) : OpR X (compareOp .NotIn) (rNinU K) := h ▸ op_ninU0
theorem sl_U (h : X.K = K := by rfl) : SlR X (rSlU K) := h ▸ sl_U0
theorem call_lenU (h : X.K = K := by rfl) : CallR X (.builtin "len") (rLenU K) := h ▸ call_lenU0
theorem call_tupU (h : X.K = K := by rfl) : CallR X (.type "tuple") (rTupOf K) := h ▸ call_tupU0
theorem op_eqU (hu : X.A.units + 64 < cLine) (h : X.K = K := by rfl) : OpR X (compareOp .Eq) (rEqU K) := h ▸ op_eqU0 hu
theorem op_neU (hu : X.A.units + 64 < cLine) (h : X.K = K := by rfl) : OpR X (compareOp .NotEq) (rNeU K) := h ▸ op_neU0 hu
theorem ix_U (h : X.K = K := by rfl) : IxR X (rIx K) := h ▸ ix_seq
theorem call_isiU (h : X.K = K := by rfl) : CallR X (.builtin "isinstance") (rIsi K) := h ▸ call_isi
theorem call_allU (hc : X.calm = true) (h : X.K = K := by rfl) : CallR X (.builtin "all") (rAll K) := h ▸ cr_all hc
theorem call_anyU (hc : X.calm = true) (h : X.K = K := by rfl) : CallR X (.builtin "any") (rAny K) := h ▸ cr_any hc
theorem call_sumU (hc : X.calm = true) (h : X.K = K := by rfl) : CallR X (.builtin "sum") (rSum K) := h ▸ cr_sum hc
def rSortS (K : PySem.W.Frag) : List V → Hp → VK → Prop := rSortedS K
theorem call_sortSU (h : X.K = K := by rfl) : CallR X (.builtin "sorted") (rSortS K) := h ▸ cr_sortedS
def rJoin (K : PySem.W.Frag) : V → List V → Hp → VK → Prop := fun x xs H Q => ∃ a p, ∃ ys : List Str, x = .str a ∧ xs = [.ref p] ∧ (SqL K H p (ys.map V.str) ∨ SqT K H p (ys.map V.str)) ∧ (ys.map (·.length)).sum + ys.length * a.length ≤ 16777216 ∧ Q (.str (Txt.join a ys)) H
theorem mt_joinU (h : X.K = K := by rfl) : MtR X "str.join" (rJoin K) := h ▸ mt_join
variable {o e : Expr} {to te : TE} {pos apos cpos : Pos}
theorem pe_joinU (ho : PE X o to) (he : PE X e te) (h : X.K = K := by rfl) (hs : starEach [e] X.env = [(false, eval e X.env)] := by rfl) (hbase : attributeBase o "join" X.env (eval o X.env) = eval o X.env := by rfl) (hline : (apos.endLine == pos.line) = true := by rfl) :
    PE X (.Call (.Attribute o "join" apos) [e] [] pos) (tM1 (rJoin K) to te) := pe_m1 F.slot_str_join F.type_str_join (mt_joinU K h) ho he hs hbase hline
def rSplit : V → List V → Hp → VK → Prop := fun x xs H Q => ∃ a b, x = .str a ∧ xs = [.str b] ∧ (b.length == 0) = false ∧ a.length + 2 ≤ sizeLine ∧ rNewStrs (Txt.split a b) H Q
theorem pe_splitU (ho : PE X o to) (he : PE X e te) (hs : starEach [e] X.env = [(false, eval e X.env)] := by rfl) (hbase : attributeBase o "split" X.env (eval o X.env) = eval o X.env := by rfl) (hline : (apos.endLine == pos.line) = true := by rfl) :
    PE X (.Call (.Attribute o "split" apos) [e] [] pos) (tM1 rSplit to te) := pe_split ho he hs hbase hline
def rPartition : V → List V → Hp → VK → Prop := fun x xs H Q => ∃ a b, x = .str a ∧ xs = [.str b] ∧ (b.length == 0) = false ∧ a.length ≤ sizeLine ∧
      ∀ p, H p = none → Q (.ref p) (upd H p (.tup [.str (Txt.partition a b).1, .str (Txt.partition a b).2.1, .str (Txt.partition a b).2.2]))
theorem pe_partitionU (ho : PE X o to) (he : PE X e te) (hs : starEach [e] X.env = [(false, eval e X.env)] := by rfl) (hbase : attributeBase o "partition" X.env (eval o X.env) = eval o X.env := by rfl) (hline : (apos.endLine == pos.line) = true := by rfl) :
    PE X (.Call (.Attribute o "partition" apos) [e] [] pos) (tM1 rPartition to te) := pe_partition ho he hs hbase hline
variable {es : List Expr} {T : String} {name : Str} {id : String} {r : V → List V → Hp → VK → Prop} {t : TA}
theorem pe_bmU (pa : PlainAttrs T) (slot : Slot T name id) (hty : typeOf (.builtin id) = pure (.type "method_descriptor")) (hm : MtR X id r) (ho : PE X o to) (ha : PA X (e :: es) t) (h : X.K = K := by rfl)
    (hbase : attributeBase o name X.env (eval o X.env) = eval o X.env := by rfl)
    (hfew : ((backTo cpos (starEach (e :: es) X.env)).all (fun x => !x.1) && (backToKw cpos (keywordEach [] X.env)).all (fun x => x.1.isSome)
      && decide ((e :: es).length + ([] : List Keyword).length + (if ([] : List Keyword).isEmpty then 0 else 1) < 30)) = true := by rfl)
    (hline : (apos.endLine == cpos.line) = true := by rfl) (hs : starEach (e :: es) X.env = (false, eval e X.env) :: starEach es X.env := by rfl) (hplain : (backTo cpos (starEach es X.env)).any (·.1) = false := by rfl) :
    PE X (.Call (.Attribute o name apos) (e :: es) [] cpos) (tBM K T r to t) := h ▸ pe_bm pa slot hty hm ho ha hbase hfew hline hs hplain
theorem pe_bm0U (pa : PlainAttrs T) (slot : Slot T name id) (hty : typeOf (.builtin id) = pure (.type "method_descriptor")) (hm : MtR X id r) (ho : PE X o to) (h : X.K = K := by rfl)
    (hbase : attributeBase o name X.env (eval o X.env) = eval o X.env := by rfl) (hline : (apos.endLine == cpos.line) = true := by rfl) : PE X (.Call (.Attribute o name apos) [] [] cpos) (tBM0 K T r to) := h ▸ pe_bm0 pa slot hty hm ho hbase hline
theorem pi_listU {tg : Expr} (hl : PE X e te) (h : X.K = K := by rfl) : PI X tg e (iList K te) := h ▸ pi_list hl
theorem pi_tupU {tg : Expr} (hl : PE X e te) (h : X.K = K := by rfl) : PI X tg e (iTup K te) := h ▸ pi_tup hl
theorem pi_enumU {ta : TA} {p tpos : Pos} {elts : List Expr} {kk : Nat} (hg : Gl X "enumerate") (hm : X.mg "enumerate" = none) (ha : PA X [e] ta) (h : X.K = K := by rfl) (hs : starEach [e] X.env = [(false, eval e X.env)] := by rfl) :
    PI X (.Tuple elts kk tpos) (.Call (.Name "enumerate" p) [e] [] pos) (iEnum K ta) := h ▸ pi_enum hg hm ha hs
theorem pg_tupU {k : Nat} {tt : TGs} {n : Nat} (hc : X.calm = true) (hp : PGs X es tt) (h : X.K = K := by rfl)
    (hn : (assignEach es X.env).length = n := by rfl) (hst : (assignEach es X.env).findIdx? (·.1) = none := by rfl) : PG X (.Tuple es k pos) (gTup K n tt) := h ▸ pg_tup hc hp hn hst
theorem pe_fldU {f : Str} (he : PE X e te) (hb : attributeBase e f X.env (eval e X.env) = eval e X.env) (h : X.K = K := by rfl) : PE X (.Attribute e f pos) (tFld K te f) := h ▸ pe_fld he hb
theorem ps_fldU {f : Str} {pos' : Pos} (ho : PE X o to) (he : PE X e te) (hs : swapsWith e (some (.Attribute o f pos')) pos.line X.env = pure false) (h : X.K = K := by rfl) : PS X (.Assign [.Attribute o f pos'] e pos) (sFld K to te f) := h ▸ ps_fld ho he hs
end
/-- a constant of the module -/
def GV (mg : Str → Option Value) (x : Str) (v : V) : Prop := ∃ u, mg x = some u ∧ RelV v u
theorem pe_gv {X : Cx} {x : Str} {v : V} {pos : Pos} (hg : Gl X x) (h : GV X.mg x v) (hd : (x == ("__debug__" : Str)) = false := by decide) : PE X (.Name x pos) (tC v) := by
  obtain ⟨u, e, r⟩ := h
  exact pe_glob hg e r hd
theorem i_join {K : PySem.W.Frag} {H : Hp} {Q : VK} {z : Str} {p : Addr} {ys : List Str} (s : SqL K H p (ys.map V.str) ∨ SqT K H p (ys.map V.str)) (l : (ys.map (·.length)).sum + ys.length * z.length ≤ 16777216) (q : Q (.str (Txt.join z ys)) H) : rJoin K (.str z) [.ref p] H Q := ⟨z, p, ys, rfl, rfl, s, l, q⟩
theorem i_split {H : Hp} {Q : VK} {a b : Str} (h : (b.length == 0) = false) (l : a.length + 2 ≤ sizeLine) (q : ∀ p H', H p = none → Same H H' → H' p = some (.lst ((Txt.split a b).map V.str)) → Q (.ref p) H') : rSplit (.str a) [.str b] H Q :=
  ⟨a, b, rfl, rfl, h, l, fun p hp => q p _ hp (same_new hp _) upd_same⟩
theorem i_partition {H : Hp} {Q : VK} {a b : Str} (h : (b.length == 0) = false) (l : a.length ≤ sizeLine) (q : ∀ p H', H p = none → Same H H' → H' p = some (.tup [.str (Txt.partition a b).1, .str (Txt.partition a b).2.1, .str (Txt.partition a b).2.2]) → Q (.ref p) H') : rPartition (.str a) [.str b] H Q :=
  ⟨a, b, rfl, rfl, h, l, fun p hp => q p _ hp (same_new hp _) upd_same⟩

/-! ### a def that is called: its promise and where it stands -/
structure Cal (P : Program) (w : World) (K : PySem.W.Frag) (mg : Str → Option Value) (base : Heap) (CX : CXT) (x : Str) (ps : List Str) (k : Nat) (sp : Sp) : Prop where
  ex : ∃ (f : Addr) (fd : FuncData), FnOk P w K mg base CX k f fd ps sp ∧ mg x = some (.ref f) ∧ PySem.W.keepIn K (.ref f) = true ∧ Binds K fd ps []
section
variable {X : Cx} {k n : Nat} {x : Str} {ps : List Str} {sp : Sp} {E : XK} {CX : CXT} {e : Expr} {es : List Expr} {t : TA} {p pos : Pos}
theorem pe_calE (C : Cal X.prog X.w X.K X.mg X.base CX x ps k sp) (hr : Room n X.A) (hg : Gl X x) (hp : Passes CX X E) (ha : PA X (e :: es) t) (hk : k ≤ n := by decide) (hdb : (x == ("__debug__" : Str)) = false := by decide)
    (he : starEach (e :: es) X.env = (false, eval e X.env) :: starEach es X.env := by rfl) (hpl : (backTo pos (starEach es X.env)).any (·.1) = false := by rfl) : PE X (.Call (.Name x p) (e :: es) [] pos) (tCall sp [] E t) := by
  obtain ⟨f, fd, F, hm, hkp, hb⟩ := C.ex
  exact pe_call F (hr.mono hk) hg hm hkp hb .nil hp ha hdb he hpl
theorem pe_cal (C : Cal X.prog X.w X.K X.mg X.base CX0 x ps k sp) (hr : Room n X.A) (hg : Gl X x) (ha : PA X (e :: es) t) (hk : k ≤ n := by decide) (hdb : (x == ("__debug__" : Str)) = false := by decide)
    (he : starEach (e :: es) X.env = (false, eval e X.env) :: starEach es X.env := by rfl) (hpl : (backTo pos (starEach es X.env)).any (·.1) = false := by rfl) : PE X (.Call (.Name x p) (e :: es) [] pos) (tCall sp [] E0 t) :=
  pe_calE C hr hg pass0 ha hk hdb he hpl
theorem pe_ty {T : String} (hg : Gl X x) (hm : X.mg x = none) (hv : bootBuiltins x = some (.type T)) (hn : x ≠ "__name__" := by decide) (hd : (x == ("__debug__" : Str)) = false := by decide) : PE X (.Name x pos) (tC (.ty T)) := pe_bltn hg hm hv rfl hn hd
end

/-! ### readings, piece by piece -/
section
variable {K : PySem.W.Frag} {σ : L2.St} {H : Hp} {Q : VK} {D : Ends} {ta tb tc te : TE} {t u : TT} {i j : Int} {x y v : V}
theorem i_var {n : Nat} (h : σ[n]? = some (some v)) (q : Q v H) : tVar n σ H Q := ⟨v, h, q⟩
theorem i_c (q : Q v H) : tC v σ H Q := q
theorem i_op {r : R2} (h : ta σ H fun x H1 => tb σ H1 fun y H2 => r x y H2 Q) : tOp r ta tb σ H Q := h
theorem i_un {r : V → Hp → VK → Prop} (h : ta σ H fun x H1 => r x H1 Q) : tUn r ta σ H Q := h
theorem i_test {Q : Bool → Hp → Prop} (h : te σ H fun x H' => ∃ k, x = .bl k ∧ Q k H') : tTest te σ H Q := h
theorem i_tB {Q : Bool → Hp → Prop} (h : te σ H fun x H' => ∃ k, x = .bl k ∧ Q k H') : tB te σ H Q := h
theorem i_bl {R : Bool → Prop} {b : Bool} (h : R b) : ∃ k, V.bl b = .bl k ∧ R k := ⟨b, rfl, h⟩
theorem i_and {Q : Bool → Hp → Prop} (h : t σ H fun c H1 => if c = true then u σ H1 Q else Q false H1) : tAnd t u σ H Q := h
theorem i_or {Q : Bool → Hp → Prop} (h : t σ H fun c H1 => if c = true then Q true H1 else u σ H1 Q) : tOr t u σ H Q := h
theorem i_not {Q : Bool → Hp → Prop} (h : t σ H fun c H1 => Q (!c) H1) : tNot t σ H Q := h
theorem i_andV (h : ta σ H fun x H1 => ∃ c, x = .bl c ∧ if c = true then tb σ H1 Q else Q (.bl false) H1) : tAndV ta tb σ H Q := h
theorem i_orV (h : ta σ H fun x H1 => ∃ c, x = .bl c ∧ if c = true then Q (.bl true) H1 else tb σ H1 Q) : tOrV ta tb σ H Q := h
theorem i_notV (h : ta σ H fun x H1 => ∃ c, x = .bl c ∧ Q (.bl (!c)) H1) : tNotV ta σ H Q := h
theorem i_if (h : t σ H fun c H1 => if c = true then ta σ H1 Q else tb σ H1 Q) : tIf t ta tb σ H Q := h
theorem i_chain {r r' : R2} (h : ta σ H fun x H1 => tb σ H1 fun y H2 => r x y H2 fun z H3 => ∃ k, z = .bl k ∧ (if k = true then tc σ H3 fun w' H4 => r' y w' H4 Q else Q (.bl false) H3)) : tChain r r' ta tb tc σ H Q := h
theorem i_nil {Q : List V → Hp → Prop} (h : Q [] H) : tNil σ H Q := h
theorem i_cons {Q : List V → Hp → Prop} {tr : TA} (h : ta σ H fun x H1 => tr σ H1 fun xs H2 => Q (x :: xs) H2) : tCons ta tr σ H Q := h
def UK (xs : List V) (H : Hp) (Q : VK) : Prop := xs.length ≤ sizeLine ∧ ∀ p, H p = none → Q (.ref p) (upd H p (.tup xs))
def LK (xs : List V) (H : Hp) (Q : VK) : Prop := xs.length ≤ sizeLine ∧ ∀ p, H p = none → Q (.ref p) (upd H p (.lst xs))
theorem i_tup {t : TA} (h : t σ H fun xs H1 => UK xs H1 Q) : tTup t σ H Q := h
theorem i_lst {t : TA} (h : t σ H fun xs H1 => LK xs H1 Q) : tLst t σ H Q := h
theorem i_cb {r : List V → Hp → VK → Prop} {t : TA} (h : t σ H fun vs H1 => r vs H1 Q) : tCB r t σ H Q := h
theorem i_call {sp : Sp} {dvs : List V} {E : XK} {t : TA} (h : t σ H fun vs H1 => sp (vs ++ dvs) H1 Q E) : tCall sp dvs E t σ H Q := h
theorem i_bm {T : String} {r : V → List V → Hp → VK → Prop} {to : TE} {t : TA} (h : to σ H fun x H1 => tyV K T x H1 ∧ t σ H1 fun xs H2 => r x xs H2 Q) : tBM K T r to t σ H Q := h
theorem i_m1 {r : V → List V → Hp → VK → Prop} (h : ta σ H fun x H1 => (∃ a, x = .str a) ∧ te σ H1 fun y H2 => r x [y] H2 Q) : tM1 r ta te σ H Q := h
theorem i_m0 {r : V → List V → Hp → VK → Prop} (h : ta σ H fun x H1 => (∃ a, x = .str a) ∧ r x [] H1 Q) : tM0 r ta σ H Q := h
theorem i_exstr {z : Str} {R : Prop} (h : R) : (∃ a, V.str z = .str a) ∧ R := ⟨⟨z, rfl⟩, h⟩
theorem i_sl {r : V → Option Int → Option Int → Hp → VK → Prop} {tl th : TO} (h : te σ H fun x H1 => tl σ H1 fun l H2 => th σ H2 fun u H3 => r x l u H3 Q) : tSl r te tl th σ H Q := h
theorem i_nopart {Q : Option Int → Hp → Prop} (h : Q none H) : tNoPart σ H Q := h
theorem i_part {Q : Option Int → Hp → Prop} (h : te σ H fun x H1 => ∃ i, x = .int i ∧ Q (some i) H1) : tPart te σ H Q := h
theorem i_int {R : Int → Prop} (h : R i) : ∃ k, V.int i = .int k ∧ R k := ⟨i, rfl, h⟩
theorem i_strE {R : Str → Prop} {z : Str} (h : R z) : ∃ k, V.str z = .str k ∧ R k := ⟨z, rfl, h⟩
/- statements -/
variable {s1 s2 : TS} {g : TG}
theorem i_seq (h : s1 { D with nx := s2 D } σ H) : tSeq s1 s2 D σ H := h
theorem i_next (h : D.nx σ H) : tNext D σ H := h
theorem i_asg (h : te σ H fun x H1 => g x σ H1 D.nx) : tAsg te g D σ H := h
theorem i_gname {n : Nat} {Q : L2.St → Hp → Prop} (h : Q (σ.set n (some v)) H) : gName n v σ H Q := h
theorem i_ret (h : te σ H D.rt) : tRet te D σ H := h
theorem i_retN (h : D.rt .non H) : tRetN D σ H := h
theorem i_drop (h : te σ H fun _ H1 => D.nx σ H1) : tDrop te D σ H := h
theorem i_ifS (h : t σ H fun b H1 => if b = true then s1 D σ H1 else s2 D σ H1) : tIfS t s1 s2 D σ H := h
theorem i_aug {n : Nat} {ti : TIp} {x : V} (hx : σ[n]? = some (some x)) (h : te σ H fun y H1 => ti x y H1 fun z H2 => D.nx (σ.set n (some z)) H2) : tAug n te ti D σ H := ⟨x, hx, h⟩
theorem i_break (h : D.bk σ H) : tBreak D σ H := h
theorem i_cont (h : D.ct σ H) : tCont D σ H := h
/- operators -/
theorem i_add_i (q : Q (.int (i + j)) H) : rAddU K (.int i) (.int j) H Q := .inl ⟨i, j, rfl, rfl, q⟩
theorem i_add_s {a b : Str} (z : a.length + b.length ≤ sizeLine) (q : Q (.str (a ++ b)) H) : rAddU K (.str a) (.str b) H Q := .inr (.inl ⟨a, b, rfl, rfl, z, q⟩)
theorem i_add_l {p r : Addr} {xs ys : List V} (hx : H p = some (.lst xs)) (hy : H r = some (.lst ys)) (z : xs.length + ys.length ≤ sizeLine) (q : ∀ l H', H l = none → Same H H' → H' l = some (.lst (xs ++ ys)) → Q (.ref l) H') : rAddU K (.ref p) (.ref r) H Q :=
  .inr (.inr (.inr ⟨p, r, xs, ys, rfl, rfl, hx, hy, z, fun l hl => q l _ hl (same_new hl _) upd_same⟩))
theorem i_add_t {p r : Addr} {xs ys : List V} (hx : SqT K H p xs) (hy : SqT K H r ys) (z : xs.length + ys.length ≤ sizeLine) (q : ∀ l H', Same H H' → SqT K H' l (xs ++ ys) → Q (.ref l) H') : rAddU K (.ref p) (.ref r) H Q := by
  refine .inr (.inr (.inl ⟨p, r, xs, ys, rfl, rfl, hx, hy, z, fun e => ?_, fun _ e => ?_, fun _ _ l hl => ?_⟩))
  · exact q r H (Same.refl H) (by rw [e]; exact hy)
  · exact q p H (Same.refl H) (by rw [e, List.append_nil]; exact hx)
  · exact q l _ (same_new hl _) (.inl (.inl upd_same))
theorem i_add_tX {p r : Addr} {xs ys : List V} (hx : H p = some (.tup xs)) (hy : H r = some (.tup ys)) (z : xs.length + ys.length ≤ sizeLine) (q : ∀ l H', Same H H' → H' l = some (.tup (xs ++ ys)) → Q (.ref l) H') : rAddU K (.ref p) (.ref r) H Q := by
  refine .inr (.inr (.inl ⟨p, r, xs, ys, rfl, rfl, .inl (.inl hx), .inl (.inl hy), z, fun e => ?_, fun _ e => ?_, fun _ _ l hl => ?_⟩))
  · exact q r H (Same.refl H) (by rw [e]; exact hy)
  · exact q p H (Same.refl H) (by rw [e, List.append_nil]; exact hx)
  · exact q l _ (same_new hl _) upd_same
theorem i_sub (q : Q (.int (i - j)) H) : rSubI (.int i) (.int j) H Q := ⟨i, j, rfl, rfl, q⟩
theorem i_mod (z : j ≠ 0) (q : Q (.int (i.fmod j)) H) : rModI (.int i) (.int j) H Q := ⟨i, j, rfl, rfl, z, q⟩
theorem i_fdv (z : j ≠ 0 ∧ j.natAbs < 1073741824) (q : Q (.int (i.fdiv j)) H) : rFdvI (.int i) (.int j) H Q := ⟨i, j, rfl, rfl, z, q⟩
theorem i_mul_l (z : -(2 ^ 64) < i ∧ i < 2 ^ 64) (q : Q (.int (i * j)) H) : rMulU (.int i) (.int j) H Q := .inl ⟨i, j, rfl, rfl, .inl z, q⟩
theorem i_mul_r (z : -(2 ^ 64) < j ∧ j < 2 ^ 64) (q : Q (.int (i * j)) H) : rMulU (.int i) (.int j) H Q := .inl ⟨i, j, rfl, rfl, .inr z, q⟩
theorem i_mul_s {z : Str} (ok : PySem.MulOk z i) (q : Q (.str (Txt.mul z i)) H) : rMulU (.str z) (.int i) H Q := .inr ⟨z, i, rfl, rfl, ok, q⟩
theorem i_pow (z : CPow i j) (q : Q (.int (i ^ j.toNat)) H) : rPowI (.int i) (.int j) H Q := ⟨i, j, rfl, rfl, z, q⟩
theorem i_neg (q : Q (.int (-i)) H) : (rU fun i => .int (-i)) (.int i) H Q := ⟨i, rfl, q⟩
theorem i_ipadd_i (q : Q (.int (i + j)) H) : rIpAdd (.int i) (.int j) H Q := .inl ⟨i, j, rfl, rfl, q⟩
theorem i_ipadd_s {a b : Str} (z : a.length + b.length ≤ sizeLine) (q : Q (.str (a ++ b)) H) : rIpAdd (.str a) (.str b) H Q := .inr ⟨a, b, rfl, rfl, z, q⟩
theorem i_eq (h : scal x y = true) (q : Q (.bl (decide (x = y))) H) : rEqU K x y H Q := .inl ⟨h, q⟩
theorem i_ne (h : scal x y = true) (q : Q (.bl (!decide (x = y))) H) : rNeU K x y H Q := .inl ⟨h, q⟩
theorem i_lt (q : Q (.bl (decide (i < j))) H) : rLtU (.int i) (.int j) H Q := .inl ⟨i, j, rfl, rfl, q⟩
theorem i_le (q : Q (.bl (decide (i ≤ j))) H) : rLeU (.int i) (.int j) H Q := .inl ⟨i, j, rfl, rfl, q⟩
theorem i_gt (q : Q (.bl (decide (i > j))) H) : rGtU (.int i) (.int j) H Q := .inl ⟨i, j, rfl, rfl, q⟩
theorem i_ge (q : Q (.bl (decide (i ≥ j))) H) : rGeU (.int i) (.int j) H Q := .inl ⟨i, j, rfl, rfl, q⟩
theorem i_lt_s {a b : Str} (q : Q (.bl (decide (a.cps.toList < b.cps.toList))) H) : rLtU (.str a) (.str b) H Q := .inr ⟨a, b, rfl, rfl, q⟩
theorem i_le_s {a b : Str} (q : Q (.bl (!decide (b.cps.toList < a.cps.toList))) H) : rLeU (.str a) (.str b) H Q := .inr ⟨a, b, rfl, rfl, q⟩
theorem i_gt_s {a b : Str} (q : Q (.bl (decide (b.cps.toList < a.cps.toList))) H) : rGtU (.str a) (.str b) H Q := .inr ⟨a, b, rfl, rfl, q⟩
theorem i_ge_s {a b : Str} (q : Q (.bl (!decide (a.cps.toList < b.cps.toList))) H) : rGeU (.str a) (.str b) H Q := .inr ⟨a, b, rfl, rfl, q⟩
theorem i_isN (q : Q (.bl (decide (x = .non))) H) : rIsNo x .non H Q := ⟨rfl, q⟩
theorem i_notN (q : Q (.bl (!decide (x = .non))) H) : rNotNo x .non H Q := ⟨rfl, q⟩
theorem i_in_c {c : Nat} {z : Str} (q : Q (.bl (decide (c ∈ z.cps.toList))) H) : rInU K (.str ⟨#[c]⟩) (.str z) H Q := .inl ⟨c, z, rfl, rfl, q⟩
theorem i_nin_c {c : Nat} {z : Str} (q : Q (.bl (!decide (c ∈ z.cps.toList))) H) : rNinU K (.str ⟨#[c]⟩) (.str z) H Q := .inl ⟨c, z, rfl, rfl, q⟩
theorem i_in_t {p : Addr} {xs : List V} (s : SqT K H p xs) (f : flatV x = true) (fs : xs.all flatV = true) (q : Q (.bl (inV x xs)) H) : rInU K x (.ref p) H Q := .inr ⟨p, xs, rfl, .inr s, f, fs, q⟩
theorem i_in_l {p : Addr} {xs : List V} (s : SqL K H p xs) (f : flatV x = true) (fs : xs.all flatV = true) (q : Q (.bl (inV x xs)) H) : rInU K x (.ref p) H Q := .inr ⟨p, xs, rfl, .inl s, f, fs, q⟩
theorem i_nin_t {p : Addr} {xs : List V} (s : SqT K H p xs) (f : flatV x = true) (fs : xs.all flatV = true) (q : Q (.bl (!inV x xs)) H) : rNinU K x (.ref p) H Q := .inr ⟨p, xs, rfl, .inr s, f, fs, q⟩
theorem i_nin_l {p : Addr} {xs : List V} (s : SqL K H p xs) (f : flatV x = true) (fs : xs.all flatV = true) (q : Q (.bl (!inV x xs)) H) : rNinU K x (.ref p) H Q := .inr ⟨p, xs, rfl, .inl s, f, fs, q⟩
theorem i_ix_l {p : Addr} {xs : List V} (s : SqL K H p xs) (e : atI xs i = some v) (q : Q v H) : rIx K (.ref p) (.int i) H Q := .inl ⟨p, xs, i, v, rfl, rfl, s, e, q⟩
theorem i_ix_t {p : Addr} {xs : List V} (s : SqT K H p xs) (e : atI xs i = some v) (q : Q v H) : rIx K (.ref p) (.int i) H Q := .inr (.inl ⟨p, xs, i, v, rfl, rfl, s, e, q⟩)
theorem i_ix_s {z : Str} {c : Nat} (l : z.length ≤ sizeLine) (e : atI z.cps.toList i = some c) (q : Q (.str ⟨#[c]⟩) H) : rIx K (.str z) (.int i) H Q := .inr (.inr ⟨z, i, c, rfl, rfl, l, e, q⟩)
theorem i_sl_s {z : Str} {lo hi : Option Int} (l : z.length ≤ sizeLine) (q : Q (.str (cutS z lo hi)) H) : rSlU K (.str z) lo hi H Q := .inr (.inr ⟨z, rfl, l, q⟩)
theorem i_sl_l {p : Addr} {xs : List V} {lo hi : Option Int} (s : SqL K H p xs) (q : ∀ r H', H r = none → Same H H' → H' r = some (.lst (cutV xs lo hi)) → Q (.ref r) H') : rSlU K (.ref p) lo hi H Q :=
  .inl ⟨p, xs, rfl, s, fun r hr => q r _ hr (same_new hr _) upd_same⟩
theorem cutV_whole {xs : List V} {lo hi : Option Int} (a : HT.sIx xs.length 0 lo = 0) (b : HT.sIx xs.length xs.length hi = xs.length) : cutV xs lo hi = xs := by
  unfold cutV
  rw [a, b, List.drop_zero, Nat.sub_zero, List.take_length]
theorem i_sl_t {p : Addr} {xs : List V} {lo hi : Option Int} (s : SqT K H p xs) (q : ∀ r H', Same H H' → SqT K H' r (cutV xs lo hi) → Q (.ref r) H') : rSlU K (.ref p) lo hi H Q :=
  .inr (.inl ⟨p, xs, rfl, s, fun e => q p H (Same.refl H) (by rw [cutV_whole e.1 e.2]; exact s), fun _ r hr => q r _ (same_new hr _) (.inl (.inl upd_same))⟩)
theorem i_sl_tX {p : Addr} {xs : List V} {lo hi : Option Int} (s : H p = some (.tup xs)) (q : ∀ r H', Same H H' → H' r = some (.tup (cutV xs lo hi)) → Q (.ref r) H') : rSlU K (.ref p) lo hi H Q :=
  .inr (.inl ⟨p, xs, rfl, .inl (.inl s), fun e => q p H (Same.refl H) (by rw [cutV_whole e.1 e.2]; exact s), fun _ r hr => q r _ (same_new hr _) upd_same⟩)
theorem i_len_s {z : Str} (l : z.length ≤ sizeLine) (q : Q (.int z.length) H) : rLenU K [.str z] H Q := .inl ⟨_, z.length, rfl, ⟨l, rfl⟩, q⟩
theorem i_len_l {p : Addr} {xs : List V} (s : SqL K H p xs) (q : Q (.int xs.length) H) : rLenU K [.ref p] H Q := .inl ⟨_, xs.length, rfl, .inl ⟨xs, s, rfl⟩, q⟩
theorem i_len_t {p : Addr} {xs : List V} (s : SqT K H p xs) (q : Q (.int xs.length) H) : rLenU K [.ref p] H Q := .inl ⟨_, xs.length, rfl, .inr ⟨xs, s, rfl⟩, q⟩
theorem i_len_d {p : Addr} {kvs : List (Key × V)} (e : H p = some (.dK kvs)) (q : Q (.int kvs.length) H) : rLenU K [.ref p] H Q := .inr ⟨p, kvs, rfl, e, q⟩
theorem i_tupof_l {p : Addr} {xs : List V} (s : SqL K H p xs) (q : ∀ l H', H l = none → Same H H' → H' l = some (.tup xs) → Q (.ref l) H') : rTupOf K [.ref p] H Q := ⟨p, xs, rfl, .inl ⟨s, fun l hl => q l _ hl (same_new hl _) upd_same⟩⟩
theorem i_tupof_t {p : Addr} {xs : List V} (s : SqT K H p xs) (q : Q (.ref p) H) : rTupOf K [.ref p] H Q := ⟨p, xs, rfl, .inr ⟨s, q⟩⟩
theorem i_int_b {b : Bool} (q : Q (.int (if b then 1 else 0)) H) : rIntU [.bl b] H Q := .inr ⟨b, rfl, q⟩
theorem i_str_i (l : i.natAbs.log2 < 1920) (q : Q (.str (toString i)) H) : rStrI [.int i] H Q := ⟨i, rfl, l, q⟩
theorem i_abs (q : Q (.int (if i < 0 then -i else i)) H) : rAbs [.int i] H Q := ⟨i, rfl, q⟩
theorem i_min2 (q : Q (.int (if j < i then j else i)) H) : rMin2 [.int i, .int j] H Q := ⟨i, j, rfl, q⟩
theorem i_all {p : Addr} {bs : List Bool} (s : SqL K H p (bs.map V.bl)) (q : Q (.bl (bs.all id)) H) : rAll K [.ref p] H Q := ⟨p, bs, rfl, s, q⟩
theorem i_sum {p : Addr} {ns : List Int} (s : SqL K H p (ns.map V.int)) (q : Q (.int ns.sum) H) : rSum K [.ref p] H Q := ⟨p, ns, rfl, s, q⟩
/- new objects: the heap behind it is a letter -/
theorem i_new_t {xs : List V} (hl : xs.length ≤ sizeLine) (q : ∀ p H', H p = none → Same H H' → H' p = some (.tup xs) → Q (.ref p) H') : UK xs H Q :=
  ⟨hl, fun p hp => q p _ hp (same_new hp _) upd_same⟩
theorem i_new_l {xs : List V} (hl : xs.length ≤ sizeLine) (q : ∀ p H', H p = none → Same H H' → H' p = some (.lst xs) → Q (.ref p) H') : LK xs H Q :=
  ⟨hl, fun p hp => q p _ hp (same_new hp _) upd_same⟩
theorem i_append {l : Addr} {xs : List V} (h : H l = some (.lst xs)) (z : xs.length < sizeLine) (q : ∀ H', Bt l H H' → H' l = some (.lst (xs ++ [y])) → Q .non H') : rAppend (.ref l) [y] H Q :=
  ⟨l, xs, y, rfl, rfl, h, z, q _ Bt.upd upd_same⟩
theorem i_extend {l b : Addr} {xs zs : List V} (h : H l = some (.lst xs)) (hb : H b = some (.lst zs)) (z : xs.length + zs.length ≤ sizeLine) (q : ∀ H', Bt l H H' → H' l = some (.lst (xs ++ zs)) → Q .non H') : rExtend (.ref l) [.ref b] H Q :=
  ⟨l, b, xs, zs, rfl, rfl, h, hb, z, q _ Bt.upd upd_same⟩
theorem i_setL {l : Addr} {xs : List V} {n : Nat} {Q : Hp → Prop} (h : H l = some (.lst xs)) (e : ixN xs.length i = some n) (q : ∀ H', Bt l H H' → H' l = some (.lst (xs.set n v)) → Q H') : rSetL (.ref l) (.int i) v H Q :=
  ⟨l, xs, i, n, rfl, rfl, h, e, q _ Bt.upd upd_same⟩
theorem i_tyl {l : Addr} {xs : List V} {R : Prop} (h : H l = some (.lst xs)) (r : R) : tyV K "list" (.ref l) H ∧ R := ⟨.inl ⟨rfl, _, .inl (.inl h)⟩, r⟩
/- isinstance -/
theorem ty_sq {p : Addr} {xs : List V} (s : SqT K H p xs) : TyX K H (.ref p) (.type "tuple") := by
  rcases s with (h | ⟨o, h⟩) | ⟨o, its, n, h, c, _⟩
  · exact .base (.tup h)
  · exact .fTuple h
  · exact .kTuple h c
theorem i_isi {T U : String} {b : Bool} (ty : TyX K H x (.type U)) (e : kitB U T = some b) (q : Q (.bl b) H) : rIsi K [x, .ty T] H Q := ⟨x, _, _, _, b, rfl, .ty T, ty, kit_ty e, q⟩
/- targets -/
theorem i_gtup {n : Nat} {t : TGs} {a : Addr} {xs : List V} {Q : L2.St → Hp → Prop} (s : SqT K H a xs) (e : xs.length = n) (h : t xs σ H Q) : gTup K n t (.ref a) σ H Q := ⟨a, xs, rfl, s, e, h⟩
theorem i_gcons {t : TG} {u : TGs} {r : List V} {Q : L2.St → Hp → Prop} (h : t v σ H fun σ' H' => u r σ' H' Q) : gCons t u (v :: r) σ H Q := ⟨v, r, rfl, h⟩
theorem i_gnil {Q : L2.St → Hp → Prop} (h : Q σ H) : gNil [] σ H Q := ⟨rfl, h⟩
theorem i_gsub {to ti : TE} {t : TSet} {Q : L2.St → Hp → Prop} (h : to σ H fun o H1 => ti σ H1 fun i H2 => t o i v H2 fun H3 => Q σ H3) : gSub to ti t v σ H Q := h
end

/-! ### loops -/
section
variable {K : PySem.W.Frag} {σ : L2.St} {H : Hp} {D : Ends} {g : TG} {tb : TS} {tl : TE} {a : Addr} {xs : List V}
theorem i_forL (h : tl σ H fun x H1 => ∃ a xs, x = .ref a ∧ SqL K H1 a xs ∧ ∃ Pv : Nat → L2.St → Hp → Prop, Pv 0 σ H1 ∧ (∀ i σ H, i ≤ xs.length → Pv i σ H → SqL K H a xs) ∧
    (∀ i x σ H, xs[i]? = some x → Pv i σ H → g x σ H fun σ2 H2 => tb { D with nx := Pv (i + 1), ct := Pv (i + 1), bk := D.nx } σ2 H2) ∧ ∀ σ H, Pv xs.length σ H → D.nx σ H)
    (mono : ∀ Q Q' : VK, (∀ v H1, Q v H1 → Q' v H1) → tl σ H Q → tl σ H Q') : tFor (iList K tl) g tb D σ H :=
  mono _ _ (fun x H1 ⟨a, xs, e, s, Pv, h0, hl, hs, hd⟩ => ⟨a, e, ⟨xs, s⟩, for_list Pv h0 hl hs hd⟩) h
theorem f_list (s : SqL K H a xs) (Pv : Nat → L2.St → Hp → Prop) (h0 : Pv 0 σ H) (hl : ∀ i σ H, i ≤ xs.length → Pv i σ H → SqL K H a xs)
    (hs : ∀ i x σ H, xs[i]? = some x → Pv i σ H → g x σ H fun σ2 H2 => tb { D with nx := Pv (i + 1), ct := Pv (i + 1), bk := D.nx } σ2 H2) (hd : ∀ σ H, Pv xs.length σ H → D.nx σ H) :
    ∃ a', V.ref a = .ref a' ∧ (∃ xs, SqL K H a' xs) ∧ ∃ W : Nat → Nat → L2.St → Hp → Prop, (∃ m, W 0 m σ H) ∧ ∀ i m σ H, W i m σ H →
      ((Itl K a').stop i H ∧ D.nx σ H) ∨ ((Itl K a').go i H ∧ ∃ N : L2.St → Hp → Prop, (∀ σ' H', N σ' H' → ∃ m', m' < m ∧ W (i + 1) m' σ' H') ∧ ∀ x H', (Itl K a').yld i H x H' → g x σ H' fun σ2 H2 => tb { D with nx := N, ct := N, bk := D.nx } σ2 H2) :=
  ⟨a, rfl, ⟨xs, s⟩, for_list Pv h0 hl hs hd⟩
theorem f_tup (s : SqT K H a xs) (Pv : Nat → L2.St → Hp → Prop) (h0 : Pv 0 σ H) (hl : ∀ i σ H, i ≤ xs.length → Pv i σ H → SqT K H a xs)
    (hs : ∀ i x σ H, xs[i]? = some x → Pv i σ H → g x σ H fun σ2 H2 => tb { D with nx := Pv (i + 1), ct := Pv (i + 1), bk := D.nx } σ2 H2) (hd : ∀ σ H, Pv xs.length σ H → D.nx σ H) :
    ∃ a', V.ref a = .ref a' ∧ (∃ xs, SqT K H a' xs) ∧ ∃ W : Nat → Nat → L2.St → Hp → Prop, (∃ m, W 0 m σ H) ∧ ∀ i m σ H, W i m σ H →
      ((Itt K a').stop i H ∧ D.nx σ H) ∨ ((Itt K a').go i H ∧ ∃ N : L2.St → Hp → Prop, (∀ σ' H', N σ' H' → ∃ m', m' < m ∧ W (i + 1) m' σ' H') ∧ ∀ x H', (Itt K a').yld i H x H' → g x σ H' fun σ2 H2 => tb { D with nx := N, ct := N, bk := D.nx } σ2 H2) :=
  ⟨a, rfl, ⟨xs, s⟩, for_tup Pv h0 hl hs hd⟩
theorem f_range {n : Nat} (hn : n < 2 ^ 62) (Pv : Nat → L2.St → Hp → Prop) (h0 : Pv 0 σ H)
    (hs : ∀ i σ H, i < n → Pv i σ H → g (.int (i : Nat)) σ H fun σ2 H2 => tb { D with nx := Pv (i + 1), ct := Pv (i + 1), bk := D.nx } σ2 H2) (hd : ∀ σ H, Pv n σ H → D.nx σ H) {k : Int} (e : k = (n : Nat)) :
    ∃ j : Int, [V.int k] = [.int j] ∧ -(2 ^ 62) ≤ j ∧ j < 2 ^ 62 ∧ ∃ W : Nat → Nat → L2.St → Hp → Prop, (∃ m, W 0 m σ H) ∧ ∀ i m σ H, W i m σ H →
      ((Itr 0 j.toNat).stop i H ∧ D.nx σ H) ∨ ((Itr 0 j.toNat).go i H ∧ ∃ N : L2.St → Hp → Prop, (∀ σ' H', N σ' H' → ∃ m', m' < m ∧ W (i + 1) m' σ' H') ∧ ∀ x H', (Itr 0 j.toNat).yld i H x H' → g x σ H' fun σ2 H2 => tb { D with nx := N, ct := N, bk := D.nx } σ2 H2) := by
  subst e
  refine ⟨(n : Int), rfl, by omega, by omega, ?_⟩
  rw [Int.toNat_natCast]
  refine for_range Pv h0 (fun i σ H hi p => ?_) hd
  rw [Int.zero_add]
  exact hs i σ H hi p
theorem i_while {c : TT} (W : Nat → L2.St → Hp → Prop) (m0 : Nat) (h0 : W m0 σ H)
    (hs : ∀ m σ H, W m σ H → c σ H fun b H1 => if b = true then ∃ N : L2.St → Hp → Prop, (∀ σ' H', N σ' H' → ∃ m', m' < m ∧ W m' σ' H') ∧ tb { D with nx := N, ct := N, bk := D.nx } σ H1 else D.nx σ H1) : tWhile c tb D σ H := ⟨W, ⟨m0, h0⟩, hs⟩
end
/-! ### comprehensions -/
/-- what a turn of a comprehension comes to with its item y -/
def CK (D : Addr) (Nx : Hp → Prop) (y : V) (H : Hp) : Prop := ∃ acc, H D = some (.lst acc) ∧ acc.length < sizeLine ∧ Nx (upd H D (.lst (acc ++ [y])))
def CN (Pv : Addr → Nat → List V → Hp → Prop) (D : Addr) (i : Nat) (H : Hp) : Prop := ∃ acc, acc.length ≤ i ∧ H D = some (.lst acc) ∧ Pv D i acc H
theorem i_ck {Pv : Addr → Nat → List V → Hp → Prop} {D : Addr} {i : Nat} {y : V} {H : Hp} {acc : List V} (h : H D = some (.lst acc)) (hl : acc.length ≤ i) (hi : i < sizeLine)
    (k : ∀ H5, Bt D H H5 → H5 D = some (.lst (acc ++ [y])) → Pv D (i + 1) (acc ++ [y]) H5) : CK D (CN Pv D (i + 1)) y H :=
  ⟨acc, h, Nat.lt_of_le_of_lt hl hi, acc ++ [y], by rw [List.length_append]; exact Nat.succ_le_succ hl, upd_same, k _ Bt.upd upd_same⟩
section
variable {K : PySem.W.Frag} {σ : L2.St} {H : Hp} {Qd : Addr → Hp → Prop} {te : TE} {tt : L2.TT} {vs : List Nat} {a : Addr} {xs : List V} {g : TG}
theorem c_core (J : It) (n : Nat) (hn : n < sizeLine) (item : Nat → V → Prop) (Pv : Addr → Nat → List V → Hp → Prop) (h0 : ∀ D H1, H D = none → Same H H1 → H1 D = some (.lst []) → Pv D 0 [] H1)
    (go : ∀ D i acc H1, H D = none → i < n → Pv D i acc H1 → J.go i H1) (yl : ∀ D i acc x H1 H', H D = none → Pv D i acc H1 → J.yld i H1 x H' → H' = H1 ∧ item i x) (st : ∀ D acc H1, H D = none → Pv D n acc H1 → J.stop n H1)
    (hs : ∀ D i x acc H1, H D = none → i < n → item i x → acc.length ≤ i → H1 D = some (.lst acc) → Pv D i acc H1 → g x (wipe σ vs) H1 fun σ2 H2 => wipe σ2 vs = wipe σ vs ∧ tt σ2 H2 fun b H3 =>
      if b = true then te σ2 H3 fun y H4 => CK D (CN Pv D (i + 1)) y H4 else CN Pv D (i + 1) H3)
    (hd : ∀ D acc H1, H D = none → acc.length ≤ n → H1 D = some (.lst acc) → Pv D n acc H1 → Qd D H1) :
    ∀ D, H D = none → ∃ W : Nat → Nat → Hp → Prop, (∃ m, W 0 m (upd H D (.lst []))) ∧ ∀ i m H, W i m H →
      (J.stop i H ∧ Qd D H) ∨ (J.go i H ∧ ∃ Nx : Hp → Prop, (∀ H', Nx H' → ∃ m', m' < m ∧ W (i + 1) m' H') ∧ ∀ x H', J.yld i H x H' → g x (wipe σ vs) H' fun σ2 H2 => wipe σ2 vs = wipe σ vs ∧ tt σ2 H2 fun b H3 =>
        if b = true then te σ2 H3 fun y H4 => ∃ acc, H4 D = some (.lst acc) ∧ acc.length < sizeLine ∧ Nx (upd H4 D (.lst (acc ++ [y]))) else Nx H3) := by
  intro D hD
  refine ⟨fun i m H1 => m = n - i ∧ i ≤ n ∧ CN Pv D i H1, ⟨n, by simp, Nat.zero_le _, [], Nat.le_refl _, upd_same, h0 D _ hD (same_new hD _) upd_same⟩, ?_⟩
  rintro i m H1 ⟨rfl, hi, acc, ha, hac, p⟩
  by_cases hlt : i < n
  · refine .inr ⟨go D i acc H1 hD hlt p, CN Pv D (i + 1), fun H' p' => ⟨n - (i + 1), by omega, rfl, hlt, p'⟩, fun x H' y => ?_⟩
    obtain ⟨e, y2⟩ := yl D i acc x H1 H' hD p y
    subst e
    exact hs D i x acc _ hD hlt y2 ha hac p
  · have e : i = n := by omega
    subst e
    exact .inl ⟨st D acc H1 hD p, hd D acc H1 hD ha hac p⟩
theorem c_list (s : SqL K H a xs) (hz : xs.length < sizeLine) (Pv : Addr → Nat → List V → Hp → Prop) (h0 : ∀ D H1, H D = none → Same H H1 → H1 D = some (.lst []) → Pv D 0 [] H1) (hl : ∀ D i acc H1, H D = none → Pv D i acc H1 → SqL K H1 a xs)
    (hs : ∀ D i x acc H1, H D = none → xs[i]? = some x → acc.length ≤ i → i < sizeLine → H1 D = some (.lst acc) → Pv D i acc H1 → g x (wipe σ vs) H1 fun σ2 H2 => wipe σ2 vs = wipe σ vs ∧ tt σ2 H2 fun b H3 =>
      if b = true then te σ2 H3 fun y H4 => CK D (CN Pv D (i + 1)) y H4 else CN Pv D (i + 1) H3)
    (hd : ∀ D acc H1, H D = none → acc.length ≤ xs.length → H1 D = some (.lst acc) → Pv D xs.length acc H1 → Qd D H1) :
    ∃ a', V.ref a = .ref a' ∧ (∃ xs, SqL K H a' xs) ∧ ∀ D, H D = none → ∃ W : Nat → Nat → Hp → Prop, (∃ m, W 0 m (upd H D (.lst []))) ∧ ∀ i m H, W i m H →
      ((Itl K a').stop i H ∧ Qd D H) ∨ ((Itl K a').go i H ∧ ∃ Nx : Hp → Prop, (∀ H', Nx H' → ∃ m', m' < m ∧ W (i + 1) m' H') ∧ ∀ x H', (Itl K a').yld i H x H' → g x (wipe σ vs) H' fun σ2 H2 => wipe σ2 vs = wipe σ vs ∧ tt σ2 H2 fun b H3 =>
        if b = true then te σ2 H3 fun y H4 => ∃ acc, H4 D = some (.lst acc) ∧ acc.length < sizeLine ∧ Nx (upd H4 D (.lst (acc ++ [y]))) else Nx H3) := by
  refine ⟨a, rfl, ⟨xs, s⟩, c_core (Itl K a) xs.length hz (fun i x => xs[i]? = some x) Pv h0 (fun D i acc H1 hD hi p => ?_) (fun D i acc x H1 H' hD p y => ?_) (fun D acc H1 hD p => ?_) (fun D i x acc H1 hD hi y ha hac p => hs D i x acc H1 hD y ha (Nat.lt_trans hi hz) hac p) hd⟩
  · exact ⟨xs, xs[i], hl D i acc H1 hD p, by simp [hi]⟩
  · obtain ⟨e, y⟩ := y
    subst e
    exact ⟨rfl, y xs (hl D i acc _ hD p)⟩
  · exact ⟨xs, hl D _ acc H1 hD p, Nat.le_refl _⟩
theorem c_tup (s : SqT K H a xs) (hz : xs.length < sizeLine) (Pv : Addr → Nat → List V → Hp → Prop) (h0 : ∀ D H1, H D = none → Same H H1 → H1 D = some (.lst []) → Pv D 0 [] H1) (hl : ∀ D i acc H1, H D = none → Pv D i acc H1 → SqT K H1 a xs)
    (hs : ∀ D i x acc H1, H D = none → xs[i]? = some x → acc.length ≤ i → i < sizeLine → H1 D = some (.lst acc) → Pv D i acc H1 → g x (wipe σ vs) H1 fun σ2 H2 => wipe σ2 vs = wipe σ vs ∧ tt σ2 H2 fun b H3 =>
      if b = true then te σ2 H3 fun y H4 => CK D (CN Pv D (i + 1)) y H4 else CN Pv D (i + 1) H3)
    (hd : ∀ D acc H1, H D = none → acc.length ≤ xs.length → H1 D = some (.lst acc) → Pv D xs.length acc H1 → Qd D H1) :
    ∃ a', V.ref a = .ref a' ∧ (∃ xs, SqT K H a' xs) ∧ ∀ D, H D = none → ∃ W : Nat → Nat → Hp → Prop, (∃ m, W 0 m (upd H D (.lst []))) ∧ ∀ i m H, W i m H →
      ((Itt K a').stop i H ∧ Qd D H) ∨ ((Itt K a').go i H ∧ ∃ Nx : Hp → Prop, (∀ H', Nx H' → ∃ m', m' < m ∧ W (i + 1) m' H') ∧ ∀ x H', (Itt K a').yld i H x H' → g x (wipe σ vs) H' fun σ2 H2 => wipe σ2 vs = wipe σ vs ∧ tt σ2 H2 fun b H3 =>
        if b = true then te σ2 H3 fun y H4 => ∃ acc, H4 D = some (.lst acc) ∧ acc.length < sizeLine ∧ Nx (upd H4 D (.lst (acc ++ [y]))) else Nx H3) := by
  refine ⟨a, rfl, ⟨xs, s⟩, c_core (Itt K a) xs.length hz (fun i x => xs[i]? = some x) Pv h0 (fun D i acc H1 hD hi p => ?_) (fun D i acc x H1 H' hD p y => ?_) (fun D acc H1 hD p => ?_) (fun D i x acc H1 hD hi y ha hac p => hs D i x acc H1 hD y ha (Nat.lt_trans hi hz) hac p) hd⟩
  · exact ⟨xs, xs[i], hl D i acc H1 hD p, by simp [hi]⟩
  · obtain ⟨e, y⟩ := y
    subst e
    exact ⟨rfl, y xs (hl D i acc _ hD p)⟩
  · exact ⟨xs, hl D _ acc H1 hD p, Nat.le_refl _⟩
theorem c_str {z : Str} (hz : z.length < sizeLine) (Pv : Addr → Nat → List V → Hp → Prop) (h0 : ∀ D H1, H D = none → Same H H1 → H1 D = some (.lst []) → Pv D 0 [] H1)
    (hs : ∀ D i c acc H1, H D = none → z.cps.toList[i]? = some c → acc.length ≤ i → i < sizeLine → H1 D = some (.lst acc) → Pv D i acc H1 → g (.str ⟨#[c]⟩) (wipe σ vs) H1 fun σ2 H2 => wipe σ2 vs = wipe σ vs ∧ tt σ2 H2 fun b H3 =>
      if b = true then te σ2 H3 fun y H4 => CK D (CN Pv D (i + 1)) y H4 else CN Pv D (i + 1) H3)
    (hd : ∀ D acc H1, H D = none → acc.length ≤ z.length → H1 D = some (.lst acc) → Pv D z.length acc H1 → Qd D H1) :
    ∃ z', V.str z = .str z' ∧ ∀ D, H D = none → ∃ W : Nat → Nat → Hp → Prop, (∃ m, W 0 m (upd H D (.lst []))) ∧ ∀ i m H, W i m H →
      ((Its z').stop i H ∧ Qd D H) ∨ ((Its z').go i H ∧ ∃ Nx : Hp → Prop, (∀ H', Nx H' → ∃ m', m' < m ∧ W (i + 1) m' H') ∧ ∀ x H', (Its z').yld i H x H' → g x (wipe σ vs) H' fun σ2 H2 => wipe σ2 vs = wipe σ vs ∧ tt σ2 H2 fun b H3 =>
        if b = true then te σ2 H3 fun y H4 => ∃ acc, H4 D = some (.lst acc) ∧ acc.length < sizeLine ∧ Nx (upd H4 D (.lst (acc ++ [y]))) else Nx H3) := by
  refine ⟨z, rfl, c_core (Its z) z.length hz (fun i x => ∃ c, z.cps.toList[i]? = some c ∧ x = .str ⟨#[c]⟩) Pv h0 (fun D i acc H1 hD hi p => hi) (fun D i acc x H1 H' hD p y => ?_) (fun D acc H1 hD p => Nat.le_refl _) (fun D i x acc H1 hD hi y ha hac p => ?_) hd⟩
  · obtain ⟨e, c, y, ex⟩ := y
    exact ⟨e, c, by rw [Array.getElem?_toList]; exact y, ex⟩
  · obtain ⟨c, e, ex⟩ := y
    subst ex
    exact hs D i c acc H1 hD e ha (Nat.lt_trans hi hz) hac p
theorem c_range {n : Nat} (hz : n < sizeLine) (Pv : Addr → Nat → List V → Hp → Prop) (h0 : ∀ D H1, H D = none → Same H H1 → H1 D = some (.lst []) → Pv D 0 [] H1)
    (hs : ∀ D i acc H1, H D = none → i < n → acc.length ≤ i → i < sizeLine → H1 D = some (.lst acc) → Pv D i acc H1 → g (.int (i : Nat)) (wipe σ vs) H1 fun σ2 H2 => wipe σ2 vs = wipe σ vs ∧ tt σ2 H2 fun b H3 =>
      if b = true then te σ2 H3 fun y H4 => CK D (CN Pv D (i + 1)) y H4 else CN Pv D (i + 1) H3)
    (hd : ∀ D acc H1, H D = none → acc.length ≤ n → H1 D = some (.lst acc) → Pv D n acc H1 → Qd D H1) {k : Int} (e : k = (n : Nat)) :
    ∃ j : Int, [V.int k] = [.int j] ∧ -(2 ^ 62) ≤ j ∧ j < 2 ^ 62 ∧ ∀ D, H D = none → ∃ W : Nat → Nat → Hp → Prop, (∃ m, W 0 m (upd H D (.lst []))) ∧ ∀ i m H, W i m H →
      ((Itr 0 j.toNat).stop i H ∧ Qd D H) ∨ ((Itr 0 j.toNat).go i H ∧ ∃ Nx : Hp → Prop, (∀ H', Nx H' → ∃ m', m' < m ∧ W (i + 1) m' H') ∧ ∀ x H', (Itr 0 j.toNat).yld i H x H' → g x (wipe σ vs) H' fun σ2 H2 => wipe σ2 vs = wipe σ vs ∧ tt σ2 H2 fun b H3 =>
        if b = true then te σ2 H3 fun y H4 => ∃ acc, H4 D = some (.lst acc) ∧ acc.length < sizeLine ∧ Nx (upd H4 D (.lst (acc ++ [y]))) else Nx H3) := by
  subst e
  have hb : n < 2 ^ 62 := Nat.lt_trans hz (by decide)
  refine ⟨(n : Int), rfl, by omega, by omega, ?_⟩
  rw [Int.toNat_natCast]
  refine c_core (Itr 0 n) n hz (fun i x => x = .int (i : Nat)) Pv h0 (fun D i acc H1 hD hi p => hi) (fun D i acc x H1 H' hD p y => ?_) (fun D acc H1 hD p => Nat.le_refl _) (fun D i x acc H1 hD hi y ha hac p => ?_) hd
  · obtain ⟨e, y⟩ := y
    rw [Int.zero_add] at y
    exact ⟨e, y⟩
  · subst y
    exact hs D i acc H1 hD hi ha (Nat.lt_trans hi hz) hac p
end
theorem i_iList {K : PySem.W.Frag} {tl : TE} {σ : L2.St} {H : Hp} {R : It → Hp → Prop} (h : tl σ H fun x H1 => ∃ a, x = .ref a ∧ (∃ xs, SqL K H1 a xs) ∧ R (Itl K a) H1) : iList K tl σ H R := h
theorem i_iTup {K : PySem.W.Frag} {tl : TE} {σ : L2.St} {H : Hp} {R : It → Hp → Prop} (h : tl σ H fun x H1 => ∃ a, x = .ref a ∧ (∃ xs, SqT K H1 a xs) ∧ R (Itt K a) H1) : iTup K tl σ H R := h
theorem i_iStr {te : TE} {σ : L2.St} {H : Hp} {R : It → Hp → Prop} (h : te σ H fun v H1 => ∃ x, v = .str x ∧ R (Its x) H1) : iStr te σ H R := h
theorem i_iRng1 {ta : TA} {σ : L2.St} {H : Hp} {R : It → Hp → Prop} (h : ta σ H fun vs H1 => ∃ j : Int, vs = [.int j] ∧ -(2 ^ 62) ≤ j ∧ j < 2 ^ 62 ∧ R (Itr 0 j.toNat) H1) : iRng1 ta σ H R := h
theorem i_lc {wi : TI} {g : TG} {tt : L2.TT} {te : TE} {vs : List Nat} {σ : L2.St} {H : Hp} {Q : VK} (h : wi σ H fun J H1 => ∀ D, H1 D = none → ∃ W : Nat → Nat → Hp → Prop, (∃ m, W 0 m (upd H1 D (.lst []))) ∧ ∀ i m H, W i m H →
  (J.stop i H ∧ Q (.ref D) H) ∨ (J.go i H ∧ ∃ Nx : Hp → Prop, (∀ H', Nx H' → ∃ m', m' < m ∧ W (i + 1) m' H') ∧ ∀ x H', J.yld i H x H' → g x (wipe σ vs) H' fun σ2 H2 => wipe σ2 vs = wipe σ vs ∧ tt σ2 H2 fun b H3 =>
    if b = true then te σ2 H3 fun y H4 => ∃ acc, H4 D = some (.lst acc) ∧ acc.length < sizeLine ∧ Nx (upd H4 D (.lst (acc ++ [y]))) else Nx H3)) : tLc wi g tt te vs σ H Q := h
theorem i_for {wi : TI} {g : TG} {tb : TS} {D : Ends} {σ : L2.St} {H : Hp} (h : wi σ H fun J H1 => ∃ W : Nat → Nat → L2.St → Hp → Prop, (∃ m, W 0 m σ H1) ∧ ∀ i m σ H, W i m σ H →
  (J.stop i H ∧ D.nx σ H) ∨ (J.go i H ∧ ∃ N : L2.St → Hp → Prop, (∀ σ' H', N σ' H' → ∃ m', m' < m ∧ W (i + 1) m' σ' H') ∧ ∀ x H', J.yld i H x H' → g x σ H' fun σ2 H2 => tb { D with nx := N, ct := N, bk := D.nx } σ2 H2)) : tFor wi g tb D σ H := h
theorem i_yes {σ : L2.St} {H : Hp} {Q : Bool → Hp → Prop} (h : Q true H) : tYes σ H Q := h
end Aw
namespace Aw
open PySem PySem.Spec PyProof.Rows L2
theorem take_snoc {α : Type} {l : List α} {i : Nat} {c : α} (h : l[i]? = some c) : l.take (i + 1) = l.take i ++ [c] := by
  rw [List.take_add_one, h]; rfl
theorem cmpc1 {c d : Nat} {s : Str} (h : s.cps.toList = [d]) : decide ((⟨#[c]⟩ : Str).cps.toList < s.cps.toList) = decide (c < d) := by
  rw [h]
  show decide ([c] < [d]) = decide (c < d)
  by_cases e : c < d
  · rw [decide_eq_true e]; exact decide_eq_true (List.Lex.rel e)
  · rw [decide_eq_false e, decide_eq_false]
    intro z
    cases z with
    | rel r => exact e r
    | cons r => cases r
theorem cmpc2 {c d : Nat} {s : Str} (h : s.cps.toList = [d]) : decide (s.cps.toList < (⟨#[c]⟩ : Str).cps.toList) = decide (d < c) := by
  rw [h]
  show decide ([d] < [c]) = decide (d < c)
  by_cases e : d < c
  · rw [decide_eq_true e]; exact decide_eq_true (List.Lex.rel e)
  · rw [decide_eq_false e, decide_eq_false]
    intro z
    cases z with
    | rel r => exact e r
    | cons r => cases r
theorem szl {n : Nat} (h : n ≤ 100000) : n ≤ sizeLine := Nat.le_trans h (by decide)
theorem szlt {n : Nat} (h : n ≤ 100000) : n < sizeLine := Nat.lt_of_le_of_lt h (by decide)
theorem iteNT {A B : Prop} (h : B) : if (!true) = true then A else B := h
theorem iteNF {A B : Prop} (h : A) : if (!false) = true then A else B := h
theorem i_ip {f : Int → Int → Int} {i j : Int} {H : Hp} {Q : VK} (q : Q (.int (f i j)) H) : ipI f (.int i) (.int j) H Q := ⟨i, j, rfl, rfl, q⟩
theorem decI {a b : Int} : decide (V.int a = V.int b) = decide (a = b) := by simp
theorem decS {a b : Str} : decide (V.str a = V.str b) = decide (a = b) := by simp
/-- the built-ins that the module has no name of its own for -/
structure NoB (mg : Str → Option Value) : Prop where
  m_isinstance : mg "isinstance" = none
  m_str : mg "str" = none
  m_int : mg "int" = none
  m_tuple : mg "tuple" = none
  m_list : mg "list" = none
  m_bool : mg "bool" = none
  m_len : mg "len" = none
  m_all : mg "all" = none
  m_any : mg "any" = none
  m_sum : mg "sum" = none
  m_min : mg "min" = none
  m_max : mg "max" = none
  m_abs : mg "abs" = none
  m_range : mg "range" = none
  m_enumerate : mg "enumerate" = none
  m_sorted : mg "sorted" = none
/-- a def of the text -/
structure Df (K : PySem.W.Frag) (mg : Str → Option Value) (x qual : Str) (st : Stmt) (ps : List Str) : Prop where
  ex : ∃ (f : Addr) (fd : FuncData), Fun K x qual st f fd ∧ mg x = some (.ref f) ∧ Binds K fd ps []
section
variable {P : Program} {w : World} {K : PySem.W.Frag} {mg : Str → Option Value} {base : Heap} {CX : CXT} {x qual : Str} {st : Stmt} {ps : List Str} {k : Nat} {sp : Sp}
theorem Df.cal (D : Df K mg x qual st ps) (h : ∀ f fd, Fun K x qual st f fd → FnOk P w K mg base CX k f fd ps sp) : Cal P w K mg base CX x ps k sp := by
  obtain ⟨f, fd, F, hm, hb⟩ := D.ex
  exact ⟨f, fd, h f fd F, hm, F.kp, hb⟩
theorem fn_never {f : Addr} {fd : FuncData} (h : ∀ vs H Q E, ¬ sp vs H Q E) : FnOk P w K mg base CX k f fd ps sp := ⟨fun vs H Q E q => absurd q (h vs H Q E), fun A outer s H args us vs Q E _ _ _ _ q => absurd q (h vs H Q E)⟩
/-- a def that calls itself: each further depth by the one before -/
theorem Df.turns (D : Df K mg x qual st ps) (lv : Nat → Nat) (sp : Nat → Sp) (h0 : ∀ vs H Q E, ¬ sp 0 vs H Q E) (h : ∀ n f fd, Fun K x qual st f fd → Cal P w K mg base CX x ps (lv n) (sp n) → FnOk P w K mg base CX (lv (n + 1)) f fd ps (sp (n + 1))) :
    ∀ n, Cal P w K mg base CX x ps (lv n) (sp n)
  | 0 => D.cal fun f fd _ => fn_never h0
  | n + 1 => D.cal fun f fd F => h n f fd F (Df.turns D lv sp h0 h n)
end
section
variable {P : Program} {w : World} {K : PySem.W.Frag} {mg : Str → Option Value} {base : Heap}
theorem fun_okT {x qual : Str} {st : Stmt} {f : Addr} {fd : FuncData} {N ps : List Str} {k : Nat} {sp : Sp} (F : Fun K x qual st f fd) (S : FnScope N ps (defScope st)) (hnc : ∀ y ∈ (defScope st).names, y.2 ≠ .cell) (hps : 1 ≤ ps.length) (len : ∀ vs H Q E, sp vs H Q E → vs.length = ps.length)
    (hbody : ∀ (cdv : Value) (A : Around) (outer : List Env) (s : Shared) (H : Hp) (vs : List V) (Q : VK) (E : XK), Room k (A.deeper (envOfC qual (defScope st) s.heap.objs.size f cdv)) → sp vs H Q E →
      ∃ t, PSsT (cxOf CX0 P w K mg base N qual (defScope st) f cdv A outer s H E) (defBody st) t ∧ t { nx := fun _ H' => Q .non H', rt := Q } (L2.start N vs) H) : FnOk P w K mg base CX0 (k + 1) f fd ps sp := by
  obtain ⟨oc, od, kV, doc, pm, an, cdv, ct, osl, rfl, lk, hcd⟩ := F.ex
  exact fn_ofT lk hcd S hnc hps len fun A outer s H vs Q E hr hsp => hbody cdv A outer s H vs Q E hr hsp
end
theorem i_repl {to : TE} {y z : Str} {σ : L2.St} {H : Hp} {Q : VK} (h : to σ H fun v H1 => ∃ x, v = .str x ∧ x.length + (x.length + 1) * z.length ≤ 16777216 ∧ Q (.str (Txt.replace x y z)) H1) : CwR.tReplC to y z σ H Q := h
theorem i_strB {R : Str → Prop} {B : Str → Prop} {z : Str} (b : B z) (h : R z) : ∃ x, V.str z = .str x ∧ B x ∧ R x := ⟨z, rfl, b, h⟩
end Aw

namespace Aw
open PySem PySem.Builtin PySem.Builtin.Str PySem.StrLaws
/-- a text of codes -/
def S (l : List Nat) : Str := ⟨l.toArray⟩
theorem S_list (l : List Nat) : (S l).cps.toList = l := rfl
theorem S_len (l : List Nat) : (S l).length = l.length := rfl
theorem S_of (z : Str) : S z.cps.toList = z := by cases z; rfl
theorem S_ext {z y : Str} (h : z.cps.toList = y.cps.toList) : z = y := by rw [← S_of z, ← S_of y, h]
theorem S_inj {l m : List Nat} (h : S l = S m) : l = m := by rw [← S_list l, h, S_list]
theorem S_app (l m : List Nat) : S l ++ S m = S (l ++ m) := S_ext (by show (Array.append _ _).toList = _; simp [S])
theorem app_list (a b : Str) : (a ++ b).cps.toList = a.cps.toList ++ b.cps.toList := by show (Array.append _ _).toList = _; simp
theorem app_len (a b : Str) : (a ++ b).length = a.length + b.length := by
  have h := congrArg List.length (app_list a b)
  rw [List.length_append] at h
  simpa [Str.length] using h
theorem len_list (a : Str) : a.cps.toList.length = a.length := by simp [Str.length]
theorem S_one (c : Nat) : (⟨#[c]⟩ : Str) = S [c] := rfl
/-- written between -/
def inter (z : List Nat) : List (List Nat) → List Nat
  | [] => []
  | [p] => p
  | p :: q :: r => p ++ z ++ inter z (q :: r)
theorem inter_nil : ∀ ps : List (List Nat), inter [] ps = ps.flatten
  | [] => rfl
  | [p] => by simp [inter]
  | p :: q :: r => by rw [inter, inter_nil (q :: r)]; simp
theorem glueT_inter (z : List Nat) : ∀ ps : List Str, glueT z ps = inter z (ps.map (·.cps.toList))
  | [] => rfl
  | [p] => by simp [glueT, glueL, inter]
  | p :: q :: r => by
    have h := glueT_inter z (q :: r)
    show p.cps.toList ++ (z ++ (q.cps.toList ++ glueL z r)) = _
    have h2 : q.cps.toList ++ glueL z r = inter z ((q :: r).map (·.cps.toList)) := h
    rw [h2]
    simp [inter]
theorem join_list (z : Str) (ps : List Str) : (Txt.join z ps).cps.toList = inter z.cps.toList (ps.map (·.cps.toList)) := by
  cases ps with
  | nil => rfl
  | cons p r => exact (glued_list z p r).trans (glueT_inter _ _)
theorem join_S (z : List Nat) (ps : List (List Nat)) : Txt.join (S z) (ps.map S) = S (inter z ps) := S_ext (by
  rw [join_list, List.map_map]
  show inter z (List.map (fun l => l) ps) = _
  rw [List.map_id']; rfl)
theorem inter_length (z : List Nat) : ∀ ps : List (List Nat), (inter z ps).length ≤ (ps.map List.length).sum + ps.length * z.length
  | [] => by simp [inter]
  | [p] => by simp [inter]
  | p :: q :: r => by
    have := inter_length z (q :: r)
    simp only [inter, List.length_append, List.map_cons, List.sum_cons, List.length_cons] at this ⊢
    rw [Nat.succ_mul]
    omega
/-! ### split -/
theorem inter_inj {c : Nat} : ∀ {ps qs : List (List Nat)}, (∀ p ∈ ps, c ∉ p) → (∀ q ∈ qs, c ∉ q) → ps ≠ [] → qs ≠ [] → inter [c] ps = inter [c] qs → ps = qs
  | [], _, _, _, h, _, _ => absurd rfl h
  | _, [], _, _, _, h, _ => absurd rfl h
  | [p], [q], _, _, _, _, e => by rw [show p = q from e]
  | [p], q :: q2 :: r, hp, _, _, _, e => by
    exfalso
    refine hp p (List.mem_singleton.mpr rfl) ?_
    rw [show p = q ++ [c] ++ inter [c] (q2 :: r) from e]
    simp
  | p :: p2 :: r, [q], _, hq, _, _, e => by
    exfalso
    refine hq q (List.mem_singleton.mpr rfl) ?_
    rw [← show p ++ [c] ++ inter [c] (p2 :: r) = q from e]
    simp
  | p :: p2 :: r, q :: q2 :: t, hp, hq, _, _, e => by
    have e : p ++ [c] ++ inter [c] (p2 :: r) = q ++ [c] ++ inter [c] (q2 :: t) := e
    rw [List.append_assoc, List.append_assoc] at e
    have hp1 := hp p (List.mem_cons_self ..)
    have hq1 := hq q (List.mem_cons_self ..)
    have key : ∀ {a b x y : List Nat}, c ∉ a → c ∉ b → a ++ ([c] ++ x) = b ++ ([c] ++ y) → a = b ∧ x = y := by
      intro a
      induction a with
      | nil =>
        intro b x y _ hb h
        cases b with
        | nil => simpa using h
        | cons d b => simp at h; exact absurd (by simp [h.1]) hb
      | cons d a ih =>
        intro b x y ha hb h
        cases b with
        | nil => simp at h; exact absurd (by simp [h.1]) ha
        | cons f b =>
          simp only [List.cons_append, List.cons.injEq] at h
          obtain ⟨h1, h2⟩ := ih (fun z => ha (List.mem_cons_of_mem _ z)) (fun z => hb (List.mem_cons_of_mem _ z)) h.2
          exact ⟨by rw [h.1, h1], h2⟩
    obtain ⟨e1, e2⟩ := key hp1 hq1 e
    rw [e1, inter_inj (fun z hz => hp z (List.mem_cons_of_mem _ hz)) (fun z hz => hq z (List.mem_cons_of_mem _ hz)) (by simp) (by simp) e2]
theorem join_eq (sep : Str) (l : List Str) : Txt.join sep l = Str.join sep l := by
  have h := PyProof.Rows.join_plain_closes sep l
  simpa using h
theorem split_S {c : Nat} {ps : List (List Nat)} (h : ∀ p ∈ ps, c ∉ p) (h0 : ps ≠ []) : Txt.split (S (inter [c] ps)) ⟨#[c]⟩ = ps.map S := by
  have h1 := join_split (S (inter [c] ps)) ⟨#[c]⟩
  rw [← join_eq] at h1
  have h2 := congrArg (fun z : Str => z.cps.toList) h1
  rw [join_list] at h2
  have h3 := split_free (S (inter [c] ps)) c
  have hp := PyProof.Rows.split_pos (S (inter [c] ps)) ⟨#[c]⟩
  have e : (Txt.split (S (inter [c] ps)) ⟨#[c]⟩).map (·.cps.toList) = ps := by
    refine inter_inj (c := c) (fun p hp => ?_) h (fun z => ?_) h0 h2
    · obtain ⟨z, hz, rfl⟩ := List.mem_map.mp hp
      exact h3 z hz
    · rw [List.map_eq_nil_iff] at z
      rw [z] at hp
      simp at hp
  generalize Txt.split (S (inter [c] ps)) ⟨#[c]⟩ = L at e
  rw [← e, List.map_map]
  have k : ∀ z : Str, (S ∘ fun x : Str => x.cps.toList) z = z := fun z => S_of z
  rw [show (S ∘ fun x : Str => x.cps.toList) = _root_.id from funext k, List.map_id]
/-! ### partition -/
theorem partition_S {c : Nat} {a b : List Nat} (h : c ∉ a) : Txt.partition (S (a ++ c :: b)) ⟨#[c]⟩ = (S a, S [c], S b) := by
  have key : ∀ i, StrLaws.At (S (a ++ c :: b)) ⟨#[c]⟩ (S (a ++ c :: b)).length i ↔ (a ++ c :: b)[i]? = some c := fun i => StrLaws.subAt_one (S (a ++ c :: b)) c i
  rcases PyProof.Rows.partition_whole (S (a ++ c :: b)) ⟨#[c]⟩ with ⟨_, h2⟩ | ⟨i, e, hi, hk⟩
  · exact absurd ((key a.length).mpr (by simp)) (h2 a.length)
  · rw [key] at hi
    have h1 : i = a.length := by
      rcases Nat.lt_trichotomy i a.length with q | q | q
      · rw [List.getElem?_append_left q] at hi
        exact absurd (List.mem_of_getElem? hi) h
      · exact q
      · exact absurd ((key a.length).mpr (by simp)) (hk _ q)
    subst h1
    rw [e]
    refine Prod.ext (S_ext ?_) (Prod.ext rfl (S_ext ?_))
    · show (strSub _ _ _).cps.toList = a
      simp [strSub, S]
    · show (strSub _ _ _).cps.toList = b
      simp [strSub, S, Str.length]
      exact List.take_of_length_le (by omega)
theorem partition_none {c : Nat} {a : List Nat} (h : c ∉ a) : Txt.partition (S a) ⟨#[c]⟩ = (S a, S [], S []) := by
  rcases PyProof.Rows.partition_whole (S a) ⟨#[c]⟩ with ⟨h1, h2⟩ | ⟨i, e, hi, hk⟩
  · rw [h1]; rfl
  · have hi : a[i]? = some c := (StrLaws.subAt_one (S a) c i).mp hi
    exact absurd (List.mem_of_getElem? hi) h
/-! ### signs escaped -/
def esc (l : List Nat) : List Nat := l.flatMap fun c => if c = 92 ∨ c = 34 then [92, c] else [c]
theorem repl_one (y : Nat) (z : List Nat) : ∀ l : List Nat, replL [y] z l = l.flatMap fun d => if d = y then z else [d]
  | [] => by rw [replL_nil]; rfl
  | d :: r => by
    by_cases h : d = y
    · rw [replL_hit (by simp) (by simp [h]), List.flatMap_cons, if_pos h]
      show z ++ replL [y] z r = _
      rw [repl_one y z r]
    · rw [replL_miss (by simp [h]), List.flatMap_cons, if_neg h, repl_one y z r]; rfl
theorem esc_two (z : Str) : Txt.replace (Txt.replace z "\\" "\\\\") "\"" "\\\"" = S (esc z.cps.toList) := S_ext (by
  rw [replace_list (by decide), replace_list (by decide)]
  show replL [34] [92, 34] (replL [92] [92, 92] z.cps.toList) = esc z.cps.toList
  rw [repl_one, repl_one, List.flatMap_assoc]
  unfold esc
  congr 1
  funext c
  by_cases h1 : c = 92
  · subst h1; rfl
  · rw [if_neg h1]
    by_cases h2 : c = 34
    · subst h2; rfl
    · simp [h1, h2])
theorem esc_app (a b : List Nat) : esc (a ++ b) = esc a ++ esc b := by unfold esc; rw [List.flatMap_append]
theorem esc_cons (c : Nat) (b : List Nat) : esc (c :: b) = (if c = 92 ∨ c = 34 then [92, c] else [c]) ++ esc b := by unfold esc; rw [List.flatMap_cons]
theorem esc_nil : esc [] = [] := rfl
/-- text[at:at+1] -/
theorem cut_one {T : Str} {p c : Nat} {r : List Nat} (h : T.cps.toList.drop p = c :: r) : L2.cutS T (some (p : Int)) (some ((p : Int) + 1)) = ⟨#[c]⟩ := by
  have hp : p < T.length := by
    rw [← len_list]
    exact Nat.lt_of_not_le fun q => by rw [List.drop_eq_nil_of_le q] at h; cases h
  apply S_ext
  unfold L2.cutS
  rw [show ((p : Int) + 1) = ((p + 1 : Nat) : Int) by omega, HT.sIx_nat, HT.sIx_nat, Nat.min_eq_left (Nat.le_of_lt hp), Nat.min_eq_left (by omega), h, show p + 1 - p = 1 by omega]
  rfl
theorem cut_none {T : Str} {p : Nat} (h : T.cps.toList.drop p = []) : L2.cutS T (some (p : Int)) (some ((p : Int) + 1)) = S [] := by
  apply S_ext
  unfold L2.cutS
  rw [show ((p : Int) + 1) = ((p + 1 : Nat) : Int) by omega, HT.sIx_nat, HT.sIx_nat]
  have hp : T.length ≤ p := by rw [← len_list]; exact List.drop_eq_nil_iff.mp h
  rw [Nat.min_eq_right hp, Nat.min_eq_right (by omega), Nat.sub_self, List.take_zero]
  rfl
theorem drop_next {T : List Nat} {p c : Nat} {r : List Nat} (h : T.drop p = c :: r) : T.drop (p + 1) = r := by
  rw [← List.drop_drop, h]; rfl
theorem drop_lt {T : Str} {p c : Nat} {r : List Nat} (h : T.cps.toList.drop p = c :: r) : p < T.length := by
  rw [← len_list]
  exact Nat.lt_of_not_le fun q => by rw [List.drop_eq_nil_of_le q] at h; cases h
theorem drop_at {T : List Nat} {p c : Nat} {r : List Nat} (h : T.drop p = c :: r) : T[p]? = some c := by
  have e := List.getElem?_drop (xs := T) (i := p) (j := 0)
  rw [h] at e
  simpa using e.symm
theorem drop_app {T : List Nat} {p : Nat} {a r : List Nat} (h : T.drop p = a ++ r) : T.drop (p + a.length) = r := by
  rw [← List.drop_drop, h, List.drop_left]
end Aw

namespace Aw
open PySem
/-! ### trees: what is good, how large, how deep; the program's own look; how they are written -/
def plainC (c : Nat) : Bool := (decide (32 ≤ c) && decide (c ≤ 36)) || (decide (38 ≤ c) && decide (c ≤ 126))
mutual
def good : PyData → Bool
  | .str z => decide (z.length ≤ 300) && z.cps.toList.all plainC
  | .tuple ds => decide (ds.length ≤ 40) && goods ds
  | .none | .bool _ | .int _ | .list _ | .dict _ => false
def goods : List PyData → Bool
  | [] => true
  | d :: ds => good d && goods ds
end
mutual
def tsize : PyData → Nat
  | .str z => z.length + 1
  | .tuple ds => tsizes ds + 1
  | .none | .bool _ | .int _ | .list _ | .dict _ => 0
def tsizes : List PyData → Nat
  | [] => 0
  | d :: ds => tsize d + tsizes ds
end
mutual
def tdeep : PyData → Nat
  | .tuple ds => tdeeps ds + 1
  | .str _ | .none | .bool _ | .int _ | .list _ | .dict _ => 1
def tdeeps : List PyData → Nat
  | [] => 0
  | d :: ds => max (tdeep d) (tdeeps ds)
end
mutual
def roomL : PyData → Nat → Nat → Option Nat
  | .tuple ds, n + 1, r => if ds.length > 40 ∨ r < 1 then none else roomLs ds n (r - 1)
  | .str z, _ + 1, r => if z.length > 300 ∨ r ≤ z.length ∨ z.cps.toList.all plainC = false then none else some (r - z.length - 1)
  | .tuple _, 0, _ | .str _, 0, _ => none
  | .none, _, _ | .bool _, _, _ | .int _, _, _ | .list _, _, _ | .dict _, _, _ => none
def roomLs : List PyData → Nat → Nat → Option Nat
  | [], _, r => some r
  | d :: ds, n, r => match roomL d n r with
    | none => none
    | some r' => roomLs ds n r'
end
def treeOk (d : PyData) : Bool := (roomL d 12 600).isSome
mutual
theorem roomL_good : ∀ (d : PyData) (n r : Nat), good d = true → tdeep d ≤ n → tsize d ≤ r → roomL d n r = some (r - tsize d)
  | .str z, 0, r, _, h, _ => by simp [tdeep] at h
  | .str z, n + 1, r, g, _, h => by
    simp only [good, tsize, Bool.and_eq_true, decide_eq_true_eq] at g h
    simp only [roomL, tsize]
    rw [if_neg (by rw [g.2]; simp; omega)]
    rw [show r - z.length - 1 = r - (z.length + 1) by omega]
  | .tuple ds, 0, r, _, h, _ => by simp [tdeep] at h
  | .tuple ds, n + 1, r, g, h1, h2 => by
    simp only [good, tsize, tdeep, Bool.and_eq_true, decide_eq_true_eq] at g h1 h2
    simp only [roomL, tsize]
    rw [if_neg (by omega), roomLs_good ds n (r - 1) g.2 (by omega) (by omega)]
    rw [show r - 1 - tsizes ds = r - (tsizes ds + 1) by omega]
  | .none, _, _, g, _, _ => by simp [good] at g
  | .bool _, _, _, g, _, _ => by simp [good] at g
  | .int _, _, _, g, _, _ => by simp [good] at g
  | .list _, _, _, g, _, _ => by simp [good] at g
  | .dict _, _, _, g, _, _ => by simp [good] at g
theorem roomLs_good : ∀ (ds : List PyData) (n r : Nat), goods ds = true → tdeeps ds ≤ n → tsizes ds ≤ r → roomLs ds n r = some (r - tsizes ds)
  | [], n, r, _, _, _ => by simp [roomLs, tsizes]
  | d :: ds, n, r, g, h1, h2 => by
    simp only [goods, tsizes, tdeeps, Bool.and_eq_true] at g h1 h2
    rw [roomLs, roomL_good d n r g.1 (by omega) (by omega)]
    show roomLs ds n (r - tsize d) = _
    rw [roomLs_good ds n (r - tsize d) g.2 (by omega) (by omega)]
    simp only [tsizes]
    rw [show r - tsize d - tsizes ds = r - (tsize d + tsizes ds) by omega]
end
structure GoodT (d : PyData) (n m : Nat) : Prop where
  g : good d = true
  dp : tdeep d ≤ n
  sz : tsize d ≤ m
theorem GoodT.ok {d : PyData} {n m : Nat} (h : GoodT d n m) (hn : n ≤ 12) (hm : m ≤ 600) : treeOk d = true := by
  unfold treeOk
  rw [roomL_good d 12 600 h.g (Nat.le_trans h.dp hn) (Nat.le_trans h.sz hm)]; rfl
theorem GoodT.mono {d : PyData} {n m n' m' : Nat} (h : GoodT d n m) (hn : n ≤ n') (hm : m ≤ m') : GoodT d n' m' := ⟨h.g, Nat.le_trans h.dp hn, Nat.le_trans h.sz hm⟩
mutual
theorem roomL_back : ∀ (d : PyData) (n r r' : Nat), roomL d n r = some r' → good d = true ∧ tdeep d ≤ n ∧ tsize d + r' = r
  | .str z, 0, r, r', h => by simp [roomL] at h
  | .str z, n + 1, r, r', h => by
    simp only [roomL] at h
    split at h
    · cases h
    · rename_i k
      have e : r - z.length - 1 = r' := Option.some.inj h
      have k1 : z.length ≤ 300 := by omega
      have k2 : ¬ r ≤ z.length := fun q => k (.inr (.inl q))
      have k3 : z.cps.toList.all plainC = true := by
        cases q : z.cps.toList.all plainC with
        | true => rfl
        | false => exact absurd (.inr (.inr q)) k
      refine ⟨?_, ?_, ?_⟩
      · simp only [good, k3, Bool.and_true, decide_eq_true_eq]; exact k1
      · simp [tdeep]
      · simp only [tsize]; omega
  | .tuple ds, 0, r, r', h => by simp [roomL] at h
  | .tuple ds, n + 1, r, r', h => by
    simp only [roomL] at h
    split at h
    · cases h
    · rename_i k
      obtain ⟨a, b, c⟩ := roomLs_back ds n (r - 1) r' h
      simp only [good, tsize, tdeep, a]
      simp
      omega
  | .none, _, _, _, h => by simp [roomL] at h
  | .bool _, _, _, _, h => by simp [roomL] at h
  | .int _, _, _, _, h => by simp [roomL] at h
  | .list _, _, _, _, h => by simp [roomL] at h
  | .dict _, _, _, _, h => by simp [roomL] at h
theorem roomLs_back : ∀ (ds : List PyData) (n r r' : Nat), roomLs ds n r = some r' → goods ds = true ∧ tdeeps ds ≤ n ∧ tsizes ds + r' = r
  | [], n, r, r', h => by simp [roomLs] at h; simp [goods, tdeeps, tsizes, h]
  | d :: ds, n, r, r', h => by
    rw [roomLs] at h
    cases e : roomL d n r with
    | none => rw [e] at h; cases h
    | some r1 =>
      rw [e] at h
      have h : roomLs ds n r1 = some r' := h
      obtain ⟨a, b, c⟩ := roomL_back d n r r1 e
      obtain ⟨a', b', c'⟩ := roomLs_back ds n r1 r' h
      simp only [goods, tdeeps, tsizes, a, a']
      simp
      omega
end
theorem treeOk_good {d : PyData} (h : treeOk d = true) : GoodT d 12 600 := by
  unfold treeOk at h
  cases e : roomL d 12 600 with
  | none => rw [e] at h; cases h
  | some r =>
    obtain ⟨a, b, c⟩ := roomL_back d 12 600 r e
    exact ⟨a, b, by omega⟩
/-! how they are written -/
mutual
def wr : PyData → List Nat
  | .str z => 34 :: (esc z.cps.toList ++ [34])
  | .tuple ds => 40 :: (wrs ds ++ [41])
  | .none | .bool _ | .int _ | .list _ | .dict _ => []
def wrs : List PyData → List Nat
  | [] => []
  | [d] => wr d
  | d :: e :: ds => wr d ++ 32 :: wrs (e :: ds)
end
theorem wrs_inter : ∀ ds : List PyData, wrs ds = inter [32] (ds.map wr)
  | [] => by simp [wrs, inter]
  | [d] => by simp [wrs, inter]
  | d :: e :: ds => by
    rw [wrs, wrs_inter (e :: ds)]
    simp [inter]
theorem esc_len : ∀ l : List Nat, (esc l).length ≤ 2 * l.length
  | [] => by simp [esc]
  | c :: r => by
    have ih := esc_len r
    unfold esc at ih ⊢
    rw [List.flatMap_cons, List.length_append, List.length_cons]
    have : (if c = 92 ∨ c = 34 then [92, c] else [c]).length ≤ 2 := by split <;> simp
    omega
mutual
theorem wr_len : ∀ d : PyData, good d = true → (wr d).length + 1 ≤ 4 * tsize d
  | .str z, _ => by
    have := esc_len z.cps.toList
    rw [len_list] at this
    simp only [wr, tsize, List.length_cons, List.length_append, List.length_nil]
    omega
  | .tuple ds, g => by
    simp only [good, Bool.and_eq_true] at g
    have := wrs_len ds g.2
    simp only [wr, tsize, List.length_cons, List.length_append, List.length_nil]
    omega
  | .none, g => by simp [good] at g
  | .bool _, g => by simp [good] at g
  | .int _, g => by simp [good] at g
  | .list _, g => by simp [good] at g
  | .dict _, g => by simp [good] at g
theorem wrs_len : ∀ ds : List PyData, goods ds = true → (wrs ds).length ≤ 4 * tsizes ds
  | [], _ => by simp [wrs]
  | [d], g => by
    simp only [goods, Bool.and_eq_true] at g
    have := wr_len d g.1
    simp only [wrs, tsizes]
    omega
  | d :: e :: ds, g => by
    simp only [goods, Bool.and_eq_true] at g
    have h1 := wr_len d g.1
    have h2 := wrs_len (e :: ds) (by simp only [goods, Bool.and_eq_true]; exact g.2)
    rw [wrs]
    simp only [List.length_append, List.length_cons, tsizes] at h2 ⊢
    omega
end
theorem goods_mem : ∀ {ds : List PyData} {d : PyData}, goods ds = true → d ∈ ds → good d = true
  | e :: ds, d, g, h => by
    simp only [goods, Bool.and_eq_true] at g
    rcases List.mem_cons.mp h with rfl | h
    · exact g.1
    · exact goods_mem g.2 h
theorem tdeeps_mem : ∀ {ds : List PyData} {d : PyData}, d ∈ ds → tdeep d ≤ tdeeps ds
  | e :: ds, d, h => by
    simp only [tdeeps]
    rcases List.mem_cons.mp h with rfl | h
    · omega
    · have := tdeeps_mem h; omega
theorem tsizes_mem : ∀ {ds : List PyData} {d : PyData}, d ∈ ds → tsize d ≤ tsizes ds
  | e :: ds, d, h => by
    simp only [tsizes]
    rcases List.mem_cons.mp h with rfl | h
    · omega
    · have := tsizes_mem h; omega
theorem goods_of : ∀ {ds : List PyData}, (∀ d ∈ ds, good d = true) → goods ds = true
  | [], _ => rfl
  | d :: ds, h => by
    simp only [goods, Bool.and_eq_true]
    exact ⟨h d (List.mem_cons_self ..), goods_of fun e he => h e (List.mem_cons_of_mem _ he)⟩
theorem tdeeps_of {n : Nat} : ∀ {ds : List PyData}, (∀ d ∈ ds, tdeep d ≤ n) → tdeeps ds ≤ n
  | [], _ => by simp [tdeeps]
  | d :: ds, h => by
    simp only [tdeeps]
    have h1 := h d (List.mem_cons_self ..)
    have h2 := tdeeps_of fun e he => h e (List.mem_cons_of_mem _ he)
    omega
theorem tsizes_of {m : Nat} : ∀ {ds : List PyData}, (∀ d ∈ ds, tsize d ≤ m) → tsizes ds ≤ ds.length * m
  | [], _ => by simp [tsizes]
  | d :: ds, h => by
    simp only [tsizes, List.length_cons]
    have h1 := h d (List.mem_cons_self ..)
    have h2 := tsizes_of fun e he => h e (List.mem_cons_of_mem _ he)
    rw [Nat.succ_mul]
    omega
theorem GoodT.row {ds : List PyData} {n m k : Nat} (h : ∀ d ∈ ds, GoodT d n m) (hk : ds.length ≤ k) (h40 : k ≤ 40) : GoodT (.tuple ds) (n + 1) (k * m + 1) := by
  have h1 := goods_of fun d hd => (h d hd).g
  have h2 := tdeeps_of fun d hd => (h d hd).dp
  have h3 := tsizes_of fun d hd => (h d hd).sz
  refine ⟨?_, ?_, ?_⟩
  · simp only [good, h1, Bool.and_true, decide_eq_true_eq]; omega
  · simp only [tdeep]; omega
  · simp only [tsize]
    have := Nat.mul_le_mul_right m hk
    omega
theorem GoodT.text {z : Str} {m : Nat} (h : z.length + 1 ≤ m) (hm : m ≤ 301) (p : z.cps.toList.all plainC = true) : GoodT (.str z) 1 m := by
  refine ⟨?_, ?_, ?_⟩
  · simp only [good, p, Bool.and_true, decide_eq_true_eq]; omega
  · simp [tdeep]
  · simp only [tsize]; omega
end Aw

namespace Aw
open PySem PySem.Spec PyProof.Rows L2
/-! ### methods and makings, bundled -/
structure CalM (P : Program) (w : World) (K : PySem.W.Frag) (mg : Str → Option Value) (base : Heap) (CX : CXT) (C : Addr) (m : Str) (ps : List Str) (k : Nat) (sp : Sp) : Prop where
  ex : ∃ (f : Addr) (fd : FuncData), FnOk P w K mg base CX k f fd ps sp ∧ Meth K C m f ∧ Binds K fd ps []
structure CalI (P : Program) (w : World) (K : PySem.W.Frag) (mg : Str → Option Value) (base : Heap) (CX : CXT) (C : Addr) (x : Str) (ps : List Str) (k : Nat) (sp : Sp) : Prop where
  ex : ∃ (f : Addr) (fd : FuncData), FnOk P w K mg base CX k f fd ps sp ∧ Mk K C f ∧ Binds K fd ps []
  hm : mg x = some (.ref C)
/-- a method, a maker, of the text -/
structure DfM (K : PySem.W.Frag) (C : Addr) (m qual : Str) (st : Stmt) (ps : List Str) : Prop where
  ex : ∃ (f : Addr) (fd : FuncData), Fun K m qual st f fd ∧ Meth K C m f ∧ Binds K fd ps []
structure DfI (K : PySem.W.Frag) (mg : Str → Option Value) (C : Addr) (x qual : Str) (st : Stmt) (ps : List Str) : Prop where
  ex : ∃ (f : Addr) (fd : FuncData), Fun K "__init__" qual st f fd ∧ Mk K C f ∧ Binds K fd ps []
  hm : mg x = some (.ref C)
section
variable {P : Program} {w : World} {K : PySem.W.Frag} {mg : Str → Option Value} {base : Heap} {CX : CXT} {x qual : Str} {st : Stmt} {ps : List Str} {k : Nat} {sp : Sp} {C : Addr} {m : Str}
theorem DfM.cal (D : DfM K C m qual st ps) (h : ∀ f fd, Fun K m qual st f fd → FnOk P w K mg base CX k f fd ps sp) : CalM P w K mg base CX C m ps k sp := by
  obtain ⟨f, fd, F, hm, hb⟩ := D.ex
  exact ⟨f, fd, h f fd F, hm, hb⟩
theorem DfI.cal (D : DfI K mg C x qual st ps) (h : ∀ f fd, Fun K "__init__" qual st f fd → FnOk P w K mg base CX k f fd ps sp) : CalI P w K mg base CX C x ps k sp := by
  obtain ⟨f, fd, F, hm, hb⟩ := D.ex
  exact ⟨⟨f, fd, h f fd F, hm, hb⟩, D.hm⟩
end
section
variable {X : Cx} {k n : Nat} {x m : Str} {ps : List Str} {sp : Sp} {E : XK} {CX : CXT} {o e : Expr} {es : List Expr} {t : TA} {ta : TE} {p pos apos : Pos} {C : Addr}
theorem pe_mcal {pl : Sem Bool} (M : CalM X.prog X.w X.K X.mg X.base CX0 C m ps k sp) (c : Cls X.K C) (hr : Room n X.A) (he : PE X o ta) (ha : PA X (e :: es) t) (hk : k ≤ n := by decide)
    (hst : starEach (e :: es) X.env = (false, eval e X.env) :: starEach es X.env := by rfl) (hpl : (backTo pos (starEach es X.env)).any (·.1) = false := by rfl)
    (ht : eval (.Call (.Attribute o m apos) (e :: es) [] pos) X.env = (do
      let ov ← eval o X.env
      standAt apos.atName
      let (f, first) ← holding [ov] (getMethod ov m pl)
      callWith pos f first (backTo pos (starEach (e :: es) X.env)) (backToKw pos (keywordEach [] X.env))) := by rfl) :
    PE X (.Call (.Attribute o m apos) (e :: es) [] pos) (tMeth C m sp [] E0 ta t) := by
  obtain ⟨f, fd, F, hm, hb⟩ := M.ex
  exact pe_meth he c hm F (hr.mono hk) hb .nil pass0 ha hst hpl ht
theorem pe_mcal0 {pl : Sem Bool} (M : CalM X.prog X.w X.K X.mg X.base CX0 C m ps k sp) (c : Cls X.K C) (hr : Room n X.A) (he : PE X o ta) (hk : k ≤ n := by decide)
    (ht : eval (.Call (.Attribute o m apos) [] [] pos) X.env = (do
      let ov ← eval o X.env
      standAt apos.atName
      let (f, first) ← holding [ov] (getMethod ov m pl)
      callWith pos f first (backTo pos (starEach [] X.env)) (backToKw pos (keywordEach [] X.env))) := by rfl) :
    PE X (.Call (.Attribute o m apos) [] [] pos) (tMeth C m sp [] E0 ta tNil) := by
  obtain ⟨f, fd, F, hm, hb⟩ := M.ex
  exact pe_meth0 he c hm F (hr.mono hk) hb .nil pass0 ht
theorem pe_icalE (M : CalI X.prog X.w X.K X.mg X.base CX C x ps k sp) (hr : Room n X.A) (hg : Gl X x) (hp : Passes CX X E) (ha : PA X (e :: es) t) (hk : k + 1 ≤ n := by decide) (hdb : (x == ("__debug__" : Str)) = false := by decide)
    (he : starEach (e :: es) X.env = (false, eval e X.env) :: starEach es X.env := by rfl) (hpl : (backTo pos (starEach es X.env)).any (·.1) = false := by rfl) : PE X (.Call (.Name x p) (e :: es) [] pos) (tMake C sp [] E t) := by
  obtain ⟨f, fd, F, hm, hb⟩ := M.ex
  exact pe_make hm F (hr.mono hk) hg M.hm hb .nil hp ha hdb he hpl
theorem pe_ical (M : CalI X.prog X.w X.K X.mg X.base CX0 C x ps k sp) (hr : Room n X.A) (hg : Gl X x) (ha : PA X (e :: es) t) (hk : k + 1 ≤ n := by decide) (hdb : (x == ("__debug__" : Str)) = false := by decide)
    (he : starEach (e :: es) X.env = (false, eval e X.env) :: starEach es X.env := by rfl) (hpl : (backTo pos (starEach es X.env)).any (·.1) = false := by rfl) : PE X (.Call (.Name x p) (e :: es) [] pos) (tMake C sp [] E0 t) :=
  pe_icalE M hr hg pass0 ha hk hdb he hpl
theorem pe_ical0 (M : CalI X.prog X.w X.K X.mg X.base CX0 C x ps k sp) (hr : Room n X.A) (hg : Gl X x) (hk : k + 1 ≤ n := by decide) (hdb : (x == ("__debug__" : Str)) = false := by decide) : PE X (.Call (.Name x p) [] [] pos) (tMake C sp [] E0 tNil) := by
  obtain ⟨f, fd, F, hm, hb⟩ := M.ex
  exact pe_make0 hm F (hr.mono hk) hg M.hm hb .nil pass0 hdb
end
/-! ### readings -/
section
variable {K : PySem.W.Frag} {σ : L2.St} {H : Hp} {Q : VK} {D : Ends} {ta tb tv te td ty : TE} {C a : Addr} {m f : Str} {fs : List (Str × V)} {dx : Addr} {v y : V}
def MK (C : Addr) (m : Str) (sp : Sp) (dvs : List V) (E : XK) (t : TA) (σ : L2.St) (Q : VK) (x : V) (H1 : Hp) : Prop := ∃ a dx fs, x = .ref a ∧ H1 a = some (.ins C dx fs) ∧ fs.lookup m = none ∧ t σ H1 fun vs H2 => sp (x :: (vs ++ dvs)) H2 Q E
theorem i_meth {sp : Sp} {dvs : List V} {E : XK} {t : TA} (h : ta σ H fun x H1 => MK C m sp dvs E t σ Q x H1) : tMeth C m sp dvs E ta t σ H Q := h
theorem i_mk {sp : Sp} {dvs : List V} {E : XK} {t : TA} (e : H a = some (.ins C dx fs)) (n : fs.lookup m = none) (h : t σ H fun vs H2 => sp (.ref a :: (vs ++ dvs)) H2 Q E) : MK C m sp dvs E t σ Q (.ref a) H := ⟨a, dx, fs, rfl, e, n, h⟩
def FK (K : PySem.W.Frag) (f : Str) (x : V) (H1 : Hp) (Q : VK) : Prop := ∃ a C dx fs v, x = .ref a ∧ H1 a = some (.ins C dx fs) ∧ Cls K C ∧ NoAttr K C f ∧ fs.lookup f = some v ∧ Q v H1
theorem i_fld (h : ta σ H fun x H1 => FK K f x H1 Q) : tFld K ta f σ H Q := h
theorem i_fk (e : H a = some (.ins C dx fs)) (c : Cls K C) (n : NoAttr K C f) (l : fs.lookup f = some v) (q : Q v H) : FK K f (.ref a) H Q := ⟨a, C, dx, fs, v, rfl, e, c, n, l, q⟩
def SK (K : PySem.W.Frag) (f : Str) (y x : V) (H2 : Hp) (R : Hp → Prop) : Prop := ∃ a C dx fs, x = .ref a ∧ H2 a = some (.ins C dx fs) ∧ Cls K C ∧ NoAttr K C f ∧ fs.length < 1000 ∧ R (upd H2 a (.ins C dx (putF f y fs)))
theorem i_sfld (h : tv σ H fun y H1 => ta σ H1 fun x H2 => SK K f y x H2 (D.nx σ)) : sFld K ta tv f D σ H := h
theorem i_sk {R : Hp → Prop} (e : H a = some (.ins C dx fs)) (c : Cls K C) (n : NoAttr K C f) (l : fs.length < 1000) (q : ∀ H', Bt a H H' → H' a = some (.ins C dx (putF f y fs)) → R H') : SK K f y (.ref a) H R := ⟨a, C, dx, fs, rfl, e, c, n, l, q _ Bt.upd upd_same⟩
/- dicts with keys of texts -/
def DIK (y x : V) (H2 : Hp) (Q : VK) : Prop := ∃ a o, x = .ref a ∧ DGet H2 a y o ∧ Q (.bl o.isSome) H2
theorem i_din (h : ty σ H fun y H1 => td σ H1 fun x H2 => DIK y x H2 Q) : tDIn ty td σ H Q := h
theorem i_dik {z : Str} {kvs : List (Key × V)} (e : H a = some (.dK kvs)) (q : Q (.bl (valV kvs (Sum.inr z : Key)).isSome) H) : DIK (.str z) (.ref a) H Q := ⟨a, _, rfl, DGet.k (k := Sum.inr z) e, q⟩
def DNK (y x : V) (H2 : Hp) (Q : VK) : Prop := ∃ a o, x = .ref a ∧ DGet H2 a y o ∧ Q (.bl (!o.isSome)) H2
theorem i_dnin (h : ty σ H fun y H1 => td σ H1 fun x H2 => DNK y x H2 Q) : tDNotIn ty td σ H Q := h
theorem i_dnk {z : Str} {kvs : List (Key × V)} (e : H a = some (.dK kvs)) (q : Q (.bl (!(valV kvs (Sum.inr z : Key)).isSome)) H) : DNK (.str z) (.ref a) H Q := ⟨a, _, rfl, DGet.k (k := Sum.inr z) e, q⟩
def DGK (x y : V) (H2 : Hp) (Q : VK) : Prop := ∃ a v, x = .ref a ∧ DGet H2 a y (some v) ∧ Q v H2
theorem i_dget (h : td σ H fun x H1 => ty σ H1 fun y H2 => DGK x y H2 Q) : tDGet td ty σ H Q := h
theorem i_dgk {z : Str} {kvs : List (Key × V)} (e : H a = some (.dK kvs)) (g : valV kvs (Sum.inr z : Key) = some v) (q : Q v H) : DGK (.ref a) (.str z) H Q := ⟨a, v, rfl, by rw [← g]; exact DGet.k (k := Sum.inr z) e, q⟩
def DPK (v x y : V) (H3 : Hp) (R : Hp → Prop) : Prop := ∃ a H4, x = .ref a ∧ DPut H3 a y v H4 ∧ R H4
theorem i_dput (h : tv σ H fun v H1 => td σ H1 fun x H2 => ty σ H2 fun y H3 => DPK v x y H3 (D.nx σ)) : sDPut td ty tv D σ H := h
theorem i_dpk {z : Str} {kvs : List (Key × V)} {R : Hp → Prop} (e : H a = some (.dK kvs)) (l : kvs.length < sizeLine) (q : ∀ H', Bt a H H' → H' a = some (.dK (putK kvs (Sum.inr z : Key) v)) → R H') : DPK v (.ref a) (.str z) H R :=
  ⟨a, _, rfl, DPut.k (k := Sum.inr z) e l, q _ Bt.upd upd_same⟩
theorem i_dnew (q : ∀ p H', H p = none → Same H H' → H' p = some (.dK []) → Q (.ref p) H') : tDNewK σ H Q := fun p hp => q p _ hp (same_new hp _) upd_same
def rListDk : List V → Hp → VK → Prop := fun xs H Q => ∃ (a : Addr) (kvs : List (Key × V)), xs = [.ref a] ∧ Rd H a (.dK kvs) ∧ ∀ p, H p = none → Q (.ref p) (upd H p (.lst (kvs.map fun kv => kV kv.1)))
theorem call_listDk {X : Cx} (hc : X.calm = true) : CallR X (.type "list") rListDk := call_listD hc
theorem i_listDk {kvs : List (Key × V)} (e : H a = some (.dK kvs)) (q : ∀ p H', H p = none → Same H H' → H' p = some (.lst (kvs.map fun kv => kV kv.1)) → Q (.ref p) H') : rListDk [.ref a] H Q := ⟨a, kvs, rfl, .inl e, fun p hp => q p _ hp (same_new hp _) upd_same⟩
end
/-! ### what stays when an object of ours is written -/
theorem Stay.butI {H H' : Hp} {l : Addr} {C dx : Addr} {fs : List (Str × V)} (a : Bt l H H') (h : H l = some (.ins C dx fs)) : Stay H H' := ⟨fun b ys e => a.ne h e (fun z => nomatch z), fun b o u e => a.ne h e (fun z => nomatch z)⟩
theorem Stay.butD {H H' : Hp} {l : Addr} {kvs : List (Key × V)} (a : Bt l H H') (h : H l = some (.dK kvs)) : Stay H H' := ⟨fun b ys e => a.ne h e (fun z => nomatch z), fun b o u e => a.ne h e (fun z => nomatch z)⟩
/-! ### texts in their order -/
def strLe (a b : Str) : Bool := !decide (b.cps.toList < a.cps.toList)
end Aw

namespace Aw
open PySem PyProof.Rows
/-! ### texts in order -/
def leS (a b : Str) : Bool := !decide (b.cps.toList < a.cps.toList)
theorem lt_irr (a : List Nat) : ¬ a < a := List.lt_irrefl a
theorem leS_total (a b : Str) : (leS a b || leS b a) = true := by
  unfold leS
  by_cases h : b.cps.toList < a.cps.toList
  · rw [decide_eq_true h, decide_eq_false (List.lt_asymm h)]; rfl
  · rw [decide_eq_false h]; rfl
theorem leS_iff {a b : Str} : leS a b = true ↔ a.cps.toList ≤ b.cps.toList := by unfold leS; simp
theorem leS_trans (a b c : Str) (h1 : leS a b = true) (h2 : leS b c = true) : leS a c = true := by
  rw [leS_iff] at *
  exact List.le_trans h1 h2
theorem leS_anti {a b : Str} (h1 : leS a b = true) (h2 : leS b a = true) : a = b := by
  rw [leS_iff] at *
  exact S_ext (List.le_antisymm h1 h2)
def srtN (l : List Str) : List Str := l.mergeSort leS
theorem srtN_perm (l : List Str) : (srtN l).Perm l := List.mergeSort_perm l leS
theorem srtN_pw (l : List Str) : (srtN l).Pairwise fun a b => leS a b = true := List.pairwise_mergeSort leS_trans leS_total l
theorem sortedS_pw : ∀ {l : List Str}, sortedS l = true → l.Pairwise fun a b => leS a b = true
  | [], _ => .nil
  | [x], _ => List.pairwise_singleton _ _
  | x :: y :: r, h => by
    have h : risingS x (y :: r) = true := h
    simp only [risingS, Bool.and_eq_true] at h
    have h2 := sortedS_pw (l := y :: r) h.2
    refine List.pairwise_cons.mpr ⟨fun z hz => ?_, h2⟩
    have h1 : leS x y = true := by unfold leS; rw [← ltCps_eq]; exact h.1
    rcases List.mem_cons.mp hz with rfl | hz
    · exact h1
    · exact leS_trans _ _ _ h1 (List.rel_of_pairwise_cons h2 hz)
theorem pw_unique : ∀ {l m : List Str}, l.Perm m → (l.Pairwise fun a b => leS a b = true) → (m.Pairwise fun a b => leS a b = true) → l = m
  | [], m, p, _, _ => by rw [List.nil_perm.mp p]
  | x :: l, [], p, _, _ => by have := p.length_eq; simp at this
  | x :: l, y :: m, p, h1, h2 => by
    have e : x = y := by
      have a : x ∈ y :: m := p.mem_iff.mp (List.mem_cons_self ..)
      have b : y ∈ x :: l := p.mem_iff.mpr (List.mem_cons_self ..)
      rcases List.mem_cons.mp a with r | a
      · exact r
      · rcases List.mem_cons.mp b with r | b
        · exact r.symm
        · exact leS_anti (List.rel_of_pairwise_cons h1 b) (List.rel_of_pairwise_cons h2 a)
    subst e
    rw [pw_unique (List.Perm.cons_inv p) (List.pairwise_cons.mp h1).2 (List.pairwise_cons.mp h2).2]
theorem srtN_of {ys l : List Str} (p : ys.Perm l) (s : sortedS ys = true) : ys = srtN l := pw_unique (p.trans (srtN_perm l).symm) (sortedS_pw s) (srtN_pw l)
theorem srtN_unique {ys l : List Str} (p : ys.Perm l) (s : ys.Pairwise fun a b => leS a b = true) : ys = srtN l := pw_unique (p.trans (srtN_perm l).symm) s (srtN_pw l)
/-! ### names, sources -/
def letC (c : Nat) : Bool := decide (97 ≤ c) && decide (c ≤ 122)
def nameC (c : Nat) : Bool := letC c || (decide (46 ≤ c) && decide (c ≤ 57))
def nameOk (z : Str) : Bool := decide (1 ≤ z.length) && decide (z.length ≤ 24) && (z.cps.toList.head?.all letC) && z.cps.toList.all nameC
theorem nameOk_len {z : Str} (h : nameOk z = true) : 1 ≤ z.length ∧ z.length ≤ 24 := by
  unfold nameOk at h
  simp only [Bool.and_eq_true, decide_eq_true_eq] at h
  exact ⟨h.1.1.1, h.1.1.2⟩
theorem nameOk_all {z : Str} (h : nameOk z = true) {c : Nat} (hc : c ∈ z.cps.toList) : 46 ≤ c ∧ c ≤ 122 := by
  unfold nameOk at h
  simp only [Bool.and_eq_true, List.all_eq_true] at h
  have := h.2 c hc
  simp only [nameC, letC, Bool.or_eq_true, Bool.and_eq_true, decide_eq_true_eq] at this
  omega
/-- a source: its word, what it is -/
structure Src where
  k : Str
  x : PyData
def Src.py (s : Src) : PyData := .tuple [.str s.k, s.x]
def Src.ok (s : Src) : Prop := (s.k = "made" ∧ ∃ z, s.x = .str z ∧ nameOk z = true) ∨ ((s.k = "leaf" ∨ s.k = "rule") ∧ treeOk s.x = true)
def Src.what (s : Src) : List Nat := if s.k = "made" then (match s.x with | .str z => z.cps.toList | _ => []) else wr s.x
abbrev Prs := List (Str × Src)
def prPy (p : Str × Src) : PyData := .tuple [.str p.1, p.2.py]
def names (prs : Prs) : List Str := prs.map (·.1)
structure PrsOk (prs : Prs) : Prop where
  nm : ∀ p ∈ prs, nameOk p.1 = true
  sr : ∀ p ∈ prs, p.2.ok
  nd : (names prs).Nodup
  ln : prs.length ≤ 60
/-- by rising names -/
def srtP (prs : Prs) : Prs := (srtN (names prs)).filterMap fun n => prs.find? fun p => p.1 == n
def lineOf (p : Str × Src) : List Nat := p.2.k.cps.toList ++ 32 :: (p.1.cps.toList ++ 32 :: p.2.what)
theorem find_nd : ∀ {prs : Prs} {p : Str × Src}, (names prs).Nodup → p ∈ prs → prs.find? (fun q => q.1 == p.1) = some p
  | q :: r, p, nd, h => by
    unfold names at nd
    rw [List.map_cons, List.nodup_cons] at nd
    rcases List.mem_cons.mp h with rfl | h
    · rw [List.find?_cons]; simp
    · rw [List.find?_cons]
      have : (q.1 == p.1) = false := by
        apply beq_eq_false_iff_ne.mpr
        intro e
        exact nd.1 (e ▸ List.mem_map_of_mem h)
      rw [this]
      exact find_nd nd.2 h
theorem fm_names : ∀ {ys : List Str} {prs : Prs}, (∀ y ∈ ys, y ∈ names prs) → (ys.filterMap fun n => prs.find? fun p => p.1 == n).map (·.1) = ys
  | [], _, _ => rfl
  | y :: r, prs, h => by
    obtain ⟨p, hp, e⟩ := List.mem_map.mp (h y (List.mem_cons_self ..))
    have hs : (prs.find? fun q => q.1 == y).isSome = true := by rw [List.find?_isSome]; exact ⟨p, hp, by simpa using e⟩
    obtain ⟨q, hq⟩ := Option.isSome_iff_exists.mp hs
    rw [List.filterMap_cons, hq]
    have e2 : q.1 = y := by simpa using List.find?_some hq
    rw [List.map_cons, e2, fm_names fun z hz => h z (List.mem_cons_of_mem _ hz)]
theorem srtP_names (prs : Prs) : names (srtP prs) = srtN (names prs) := fm_names fun y hy => (srtN_perm _).mem_iff.mp hy
theorem srtP_mem {prs : Prs} {p : Str × Src} (h : p ∈ srtP prs) : p ∈ prs := by
  unfold srtP at h
  obtain ⟨n, _, e⟩ := List.mem_filterMap.mp h
  exact List.mem_of_find?_eq_some e
theorem srtP_ok {prs : Prs} (h : PrsOk prs) : PrsOk (srtP prs) where
  nm := fun p hp => h.nm p (srtP_mem hp)
  sr := fun p hp => h.sr p (srtP_mem hp)
  nd := by rw [srtP_names]; exact (srtN_perm _).nodup_iff.mpr h.nd
  ln := by
    have := congrArg List.length (srtP_names prs)
    unfold names at this
    rw [List.length_map, (srtN_perm _).length_eq, List.length_map] at this
    rw [this]; exact h.ln
theorem srtP_len (prs : Prs) : (srtP prs).length = prs.length := by
  have := congrArg List.length (srtP_names prs)
  unfold names at this
  rw [List.length_map, (srtN_perm _).length_eq, List.length_map] at this
  exact this
/-- what has the same names, rising, and is of the same pairs -/
theorem srtP_unique {prs qs : Prs} (nd : (names prs).Nodup) (hm : ∀ q ∈ qs, q ∈ prs) (hn : names qs = srtN (names prs)) : qs = srtP prs := by
  unfold srtP
  rw [← hn]
  have : ∀ {qs : Prs}, (∀ q ∈ qs, q ∈ prs) → qs = (names qs).filterMap fun n => prs.find? fun p => p.1 == n := by
    intro qs
    induction qs with
    | nil => intro _; rfl
    | cons q r ih =>
      intro h
      show q :: r = (q.1 :: names r).filterMap _
      rw [List.filterMap_cons, find_nd nd (h q (List.mem_cons_self ..))]
      show q :: r = q :: _
      rw [← ih fun z hz => h z (List.mem_cons_of_mem _ hz)]
  exact this hm
theorem srtP_srtP {prs : Prs} (h : PrsOk prs) : srtP (srtP prs) = srtP prs := by
  refine (srtP_unique (srtP_ok h).nd (fun q hq => hq) ?_).symm
  rw [srtP_names]
  exact srtN_unique (.refl _) (srtN_pw _)
/-! ### what lines hold -/
mutual
theorem wr_low : ∀ (d : PyData), good d = true → ∀ c ∈ wr d, 32 ≤ c
  | .str z, g, c, hc => by
    simp only [good, Bool.and_eq_true, List.all_eq_true] at g
    simp only [wr, List.mem_cons, List.mem_append, List.not_mem_nil, or_false] at hc
    rcases hc with rfl | hc | rfl
    · omega
    · unfold esc at hc
      obtain ⟨d, hd, hc⟩ := List.mem_flatMap.mp hc
      have := g.2 d hd
      simp only [plainC, Bool.or_eq_true, Bool.and_eq_true, decide_eq_true_eq] at this
      split at hc
      · simp only [List.mem_cons, List.not_mem_nil, or_false] at hc
        rcases hc with rfl | rfl <;> omega
      · rw [List.mem_singleton.mp hc]; omega
    · omega
  | .tuple ds, g, c, hc => by
    simp only [good, Bool.and_eq_true] at g
    simp only [wr, List.mem_cons, List.mem_append, List.not_mem_nil, or_false] at hc
    rcases hc with rfl | hc | rfl
    · omega
    · exact wrs_low ds g.2 c hc
    · omega
  | .none, g, _, _ => by simp [good] at g
  | .bool _, g, _, _ => by simp [good] at g
  | .int _, g, _, _ => by simp [good] at g
  | .list _, g, _, _ => by simp [good] at g
  | .dict _, g, _, _ => by simp [good] at g
theorem wrs_low : ∀ (ds : List PyData), goods ds = true → ∀ c ∈ wrs ds, 32 ≤ c
  | [], _, c, hc => by simp [wrs] at hc
  | [d], g, c, hc => by
    simp only [goods, Bool.and_eq_true] at g
    exact wr_low d g.1 c hc
  | d :: e :: ds, g, c, hc => by
    simp only [goods, Bool.and_eq_true] at g
    rw [wrs, List.mem_append, List.mem_cons] at hc
    rcases hc with hc | rfl | hc
    · exact wr_low d g.1 c hc
    · omega
    · exact wrs_low (e :: ds) (by simp only [goods, Bool.and_eq_true]; exact g.2) c hc
end
theorem what_low {s : Src} (h : s.ok) : ∀ c ∈ s.what, 32 ≤ c := by
  unfold Src.what
  rcases h with ⟨h1, z, h2, h3⟩ | ⟨h1, h2⟩
  · rw [if_pos h1, h2]
    intro c hc
    have := nameOk_all h3 hc
    omega
  · have : ¬ s.k = "made" := by rcases h1 with e | e <;> rw [e] <;> decide
    rw [if_neg this]
    exact wr_low _ (treeOk_good h2).g
theorem kind_cases {s : Src} (h : s.ok) : s.k = "made" ∨ s.k = "leaf" ∨ s.k = "rule" := by
  rcases h with ⟨h, _⟩ | ⟨h, _⟩
  · exact .inl h
  · exact .inr h
theorem kind_len {s : Src} (h : s.ok) : s.k.length = 4 := by
  rcases kind_cases h with e | e | e <;> rw [e] <;> decide
theorem kind_low {s : Src} (h : s.ok) : ∀ c ∈ s.k.cps.toList, 33 ≤ c := by
  rcases kind_cases h with e | e | e <;> rw [e] <;> decide
theorem what_len {s : Src} (h : s.ok) : s.what.length ≤ 2400 := by
  unfold Src.what
  rcases h with ⟨h1, z, h2, h3⟩ | ⟨h1, h2⟩
  · rw [if_pos h1, h2]
    have := nameOk_len h3
    show z.cps.toList.length ≤ 2400
    rw [len_list]; omega
  · have : ¬ s.k = "made" := by rcases h1 with e | e <;> rw [e] <;> decide
    rw [if_neg this]
    have h3 := treeOk_good h2
    have := wr_len s.x h3.g
    have := h3.sz
    omega
theorem line_len {p : Str × Src} (hn : nameOk p.1 = true) (h : p.2.ok) : (lineOf p).length ≤ 2430 := by
  unfold lineOf
  have h1 := kind_len h
  have h2 := what_len h
  have h3 := nameOk_len hn
  rw [List.length_append, List.length_cons, List.length_append, List.length_cons, len_list, len_list]
  omega
theorem line_low {p : Str × Src} (hn : nameOk p.1 = true) (h : p.2.ok) : 10 ∉ lineOf p := by
  intro hc
  unfold lineOf at hc
  rw [List.mem_append, List.mem_cons, List.mem_append, List.mem_cons] at hc
  rcases hc with hc | hc | hc | hc | hc
  · have := kind_low h _ hc; omega
  · omega
  · have := nameOk_all hn hc; omega
  · omega
  · have := what_low h _ hc; omega
/-- a project written -/
def prTxt (prs : Prs) : List Nat := prs.flatMap fun p => lineOf p ++ [10]
theorem prTxt_inter : ∀ prs : Prs, prTxt prs = inter [10] (prs.map lineOf ++ [[]])
  | [] => rfl
  | [p] => by simp [prTxt, inter]
  | p :: q :: r => by
    have ih := prTxt_inter (q :: r)
    unfold prTxt at ih ⊢
    rw [List.flatMap_cons, ih]
    simp [inter]
theorem split_prTxt {prs : Prs} (h : PrsOk prs) (post : List Nat) (hp : 10 ∉ post) : Txt.split (S (prTxt prs ++ post)) ⟨#[10]⟩ = prs.map (fun p => S (lineOf p)) ++ [S post] := by
  have e : prTxt prs ++ post = inter [10] (prs.map lineOf ++ [post]) := by
    rw [prTxt_inter]
    clear h
    induction prs with
    | nil => simp [inter]
    | cons p r ih =>
      cases r with
      | nil => simp [inter]
      | cons q r =>
        simp only [List.map_cons, List.cons_append, inter] at ih ⊢
        rw [List.append_assoc, ih]
  rw [e, split_S (c := 10) (ps := prs.map lineOf ++ [post]) ?_ (by simp)]
  · rw [List.map_append, List.map_map]; rfl
  · intro l hl
    rcases List.mem_append.mp hl with hl | hl
    · obtain ⟨p, hp, rfl⟩ := List.mem_map.mp hl
      exact line_low (h.nm p hp) (h.sr p hp)
    · rw [List.mem_singleton.mp hl]; exact hp
theorem i_sortS {K : PySem.W.Frag} {H : L2.Hp} {Q : L2.VK} {a : Addr} {xs : List Str} (s : L2.SqL K H a (xs.map L2.V.str)) (l : xs.length < 64) (q : ∀ p H', H p = none → L2.Same H H' → H' p = some (.lst ((srtN xs).map L2.V.str)) → Q (.ref p) H') : rSortS K [.ref a] H Q :=
  ⟨a, xs, rfl, s, l, fun ys p hy hs hp => by rw [srtN_of hy hs]; exact q p _ hp (same_new hp _) L2.upd_same⟩
end Aw

namespace Aw
open PySem PySem.Spec PyProof.Rows L2
/-! ### joined texts -/
def tJoined (ts : List TE) : TE := fun σ H Q => tJs ts Str.empty σ H fun out H1 => Q (.str out) H1
theorem pe_joinedU {X : Cx} {v1 v2 : Expr} {rest : List Expr} {ts : List TE} {pos : Pos} (h : PJ X (v1 :: v2 :: rest) ts) : PE X (.JoinedStr (v1 :: v2 :: rest) pos) (tJoined ts) := pe_joined h
def FmK (x : V) (H1 : Hp) (Q : VK) : Prop := (∃ y : Str, x = .str y ∧ y.length ≤ sizeLine ∧ Q (.str y) H1) ∨ ∃ i : Int, x = .int i ∧ i.natAbs.log2 < 1920 ∧ Q (.str (toString i)) H1
def JK (ts : List TE) (acc : Str) (σ : L2.St) (Q : Str → Hp → Prop) (x : V) (H1 : Hp) : Prop := ∃ y : Str, x = .str y ∧ (acc ++ y).length ≤ sizeLine ∧ tJs ts (acc ++ y) σ H1 Q
section
variable {K : PySem.W.Frag} {σ : L2.St} {H : Hp} {Q : VK} {R : Str → Hp → Prop} {te : TE} {ts : List TE} {acc y : Str}
theorem i_joined (h : tJs ts Str.empty σ H fun out H1 => Q (.str out) H1) : tJoined ts σ H Q := h
theorem i_fmt (h : te σ H fun x H1 => FmK x H1 Q) : tFmt te σ H Q := h
theorem i_fmk (l : y.length ≤ sizeLine) (q : Q (.str y) H) : FmK (.str y) H Q := .inl ⟨y, rfl, l, q⟩
theorem i_jcons (h : te σ H fun x H1 => JK ts acc σ R x H1) : tJs (te :: ts) acc σ H R := h
theorem i_jk (l : (acc ++ y).length ≤ sizeLine) (h : tJs ts (acc ++ y) σ H R) : JK ts acc σ R (.str y) H := ⟨y, rfl, l, h⟩
theorem i_jnil (h : R acc H) : tJs [] acc σ H R := h
end
/-! ### BadText -/
structure XCls (K : PySem.W.Frag) (mg : Str → Option Value) (x f : Str) (C : Addr) : Prop where
  oe : OexC K C
  xf : XfC K C
  nf : PySem.W.findIn K (.ref C) f = some none
  hm : mg x = some (.ref C)
  te : PySem.W.exmOne K (.ref C) (.ref C) = some true
structure DfX (K : PySem.W.Frag) (C : Addr) (qual : Str) (st : Stmt) (ps : List Str) : Prop where
  ex : ∃ (f : Addr) (fd : FuncData), Fun K "__init__" qual st f fd ∧ PySem.W.findIn K (.ref C) "__init__" = some (some (.ref f)) ∧ PySem.W.typeIn K (.ref f) = some (.type "function") ∧ Binds K fd ps []
def spBt (C : Addr) : Sp := fun vs H Q _ => ∃ (a : Addr) (v : V), vs = [.ref a, v] ∧ H a = some (exo a C none) ∧ ∀ dx, H dx = none → dx ≠ a → Q .non (upd (upd H dx (exd dx [("row", v)])) a (exo a C (some dx)))
def tBt (C : Addr) (t : TA) : L2.St → Hp → XK → Prop := tMkO C (spBt C) [] t
def BtK (C : Addr) (Q : XK) (vs : List V) (H1 : Hp) : Prop := vs.length ≤ 1000 ∧ ∀ a, H1 a = none → spBt C (.ref a :: (vs ++ [])) (upd H1 a (exo a C none))
  (fun v H2 => v = .non ∧ ∃ (d : Addr) (fs : List (Str × V)), H2 a = some (exo a C (some d)) ∧ H2 d = some (exd d fs) ∧ H1 d = none ∧ Q (.ref C) (some d) (upd (del H2 a) d (.xd fs))) (fun _ _ _ => False)
theorem i_bt {C : Addr} {t : TA} {σ : L2.St} {H : Hp} {Q : XK} (h : t σ H fun vs H1 => BtK C Q vs H1) : tBt C t σ H Q := h
theorem i_btk {C : Addr} {H1 : Hp} {Q : XK} {v : V} (q : ∀ d H', H1 d = none → Same H1 H' → H' d = some (.xd [("row", v)]) → Q (.ref C) (some d) H') : BtK C Q [v] H1 := by
  refine ⟨(show 1 ≤ 1000 by decide), fun a ha => ⟨a, v, rfl, upd_same, fun dx hd hn => ?_⟩⟩
  have hd1 : H1 dx = none := by rw [upd_ne hn] at hd; exact hd
  refine ⟨rfl, dx, _, upd_same, ?_, hd1, q dx _ hd1 ?_ upd_same⟩
  · rw [upd_ne hn, upd_same]
  · intro b o e
    have n1 : b ≠ a := ne_of_none e ha
    have n2 : b ≠ dx := ne_of_none e hd1
    rw [upd_ne n2, del_ne n1, upd_ne n1, upd_ne n2, upd_ne n1]
    exact e
/-! ### a list told with numbers -/
section
variable {K : PySem.W.Frag} {σ : L2.St} {H : Hp} {D : Ends} {g : TG} {tb : TS} {a : Addr} {xs : List V}
theorem i_iEnum {ta : TA} {R : It → Hp → Prop} (h : ta σ H fun vs H1 => ∃ a xs, vs = [.ref a] ∧ SqL K H1 a xs ∧ R (Ite K a) H1) : iEnum K ta σ H R := h
theorem f_enum (s : SqL K H a xs) (Pv : Nat → L2.St → Hp → Prop) (h0 : Pv 0 σ H) (hl : ∀ i σ H, i ≤ xs.length → Pv i σ H → SqL K H a xs)
    (hs : ∀ i x σ H T H1, xs[i]? = some x → Pv i σ H → H T = none → Same H H1 → H1 T = some (.tup [.int (i : Nat), x]) → g (.ref T) σ H1 fun σ2 H2 => tb { D with nx := Pv (i + 1), ct := Pv (i + 1), bk := D.nx } σ2 H2) (hd : ∀ σ H, Pv xs.length σ H → D.nx σ H) :
    ∃ a' xs', [V.ref a] = [.ref a'] ∧ SqL K H a' xs' ∧ ∃ W : Nat → Nat → L2.St → Hp → Prop, (∃ m, W 0 m σ H) ∧ ∀ i m σ H, W i m σ H →
      ((Ite K a').stop i H ∧ D.nx σ H) ∨ ((Ite K a').go i H ∧ ∃ N : L2.St → Hp → Prop, (∀ σ' H', N σ' H' → ∃ m', m' < m ∧ W (i + 1) m' σ' H') ∧ ∀ x H', (Ite K a').yld i H x H' → g x σ H' fun σ2 H2 => tb { D with nx := N, ct := N, bk := D.nx } σ2 H2) := by
  refine ⟨a, xs, rfl, s, fun i m σ H => m = xs.length - i ∧ i ≤ xs.length ∧ Pv i σ H, ⟨xs.length, by simp, Nat.zero_le _, h0⟩, ?_⟩
  rintro i m σ H ⟨rfl, hi, p⟩
  have sq := hl i σ H hi p
  by_cases hlt : i < xs.length
  · have hx : xs[i]? = some xs[i] := List.getElem?_eq_getElem hlt
    refine .inr ⟨⟨xs, xs[i], sq, hx⟩, Pv (i + 1), fun σ' H' p' => ⟨xs.length - (i + 1), by omega, rfl, hlt, p'⟩, fun x H' y => ?_⟩
    obtain ⟨T, z, rfl, hT, rfl, q⟩ := y
    have e := q xs sq
    exact hs i z σ H T _ e p hT (same_new hT _) upd_same
  · have e : i = xs.length := by omega
    subst e
    exact .inl ⟨⟨xs, sq, Nat.le_refl _⟩, hd σ H p⟩
end
/-! ### cuts -/
theorem szM {n : Nat} (h : n ≤ 1000000) : n ≤ sizeLine := Nat.le_trans h (by decide)
theorem cutV_last {xs : List V} {x : V} : cutV (xs ++ [x]) none (some (-1)) = xs := by
  have e1 : HT.sIx (xs ++ [x]).length 0 none = 0 := rfl
  have e2 : HT.sIx (xs ++ [x]).length (xs ++ [x]).length (some (-1)) = xs.length := by
    unfold HT.sIx
    show (if (-1 : Int) < 0 then (-1 + ((xs ++ [x]).length : Int)).toNat else min (-1 : Int).toNat (xs ++ [x]).length) = _
    rw [if_pos (by decide), List.length_append, List.length_singleton]
    omega
  unfold cutV
  rw [e1, e2, List.drop_zero, Nat.sub_zero]
  exact List.take_left (l₁ := xs)
theorem none_back {H H' : Hp} {a : Addr} (s : Same H H') (e : H' a = none) : H a = none := by
  cases h : H a with
  | none => rfl
  | some o => have := s _ _ h; rw [e] at this; cases this
theorem atI_m1 {α : Type} {xs : List α} {j : Nat} {v : α} (h : xs.length = j + 1) (e : xs[j]? = some v) : atI xs (-1) = some v := by
  unfold atI
  have e1 : ixN xs.length (-1) = some j := by
    unfold ixN
    have h1 : ¬ (0 : Int) ≤ -1 := by decide
    rw [h, if_neg h1, if_pos (by omega)]
    congr 1
    omega
  rw [e1]
  exact e
theorem atI_last {xs : List V} {x : V} : atI (xs ++ [x]) (-1) = some x := by
  unfold atI
  have e : ixN (xs ++ [x]).length (-1) = some xs.length := by
    unfold ixN
    rw [List.length_append, List.length_singleton]
    have h1 : ¬ (0 : Int) ≤ -1 := by decide
    rw [if_neg h1, if_pos (by omega)]
    congr 1
    omega
  rw [e]
  simp
end Aw
namespace Aw
open PySem PySem.Spec PyProof.Rows L2
/-! ### what can be compared -/
mutual
theorem good_lay : ∀ (d : PyData), good d = true → PyData.canLay0 d = true
  | .str z, g => by
    simp only [good, Bool.and_eq_true, List.all_eq_true] at g
    simp only [PyData.canLay0, PyData.strOk]
    rw [← Array.all_toList, List.all_eq_true]
    intro c hc
    have := g.2 c hc
    simp only [plainC, Bool.or_eq_true, Bool.and_eq_true, decide_eq_true_eq] at this
    exact decide_eq_true (by omega)
  | .tuple ds, g => by
    simp only [good, Bool.and_eq_true] at g
    simp only [PyData.canLay0]
    exact goods_lay ds g.2
  | .none, g => by simp [good] at g
  | .bool _, g => by simp [good] at g
  | .int _, g => by simp [good] at g
  | .list _, g => by simp [good] at g
  | .dict _, g => by simp [good] at g
theorem goods_lay : ∀ (ds : List PyData), goods ds = true → PyData.canLayAll0 ds = true
  | [], _ => rfl
  | d :: ds, g => by
    simp only [goods, Bool.and_eq_true] at g
    simp only [PyData.canLayAll0, Bool.and_eq_true]
    exact ⟨good_lay d g.1, goods_lay ds g.2⟩
end
mutual
theorem depth_tdeep : ∀ (d : PyData), good d = true → d.depth ≤ tdeep d
  | .str z, _ => by simp only [PyData.depth]; omega
  | .tuple ds, g => by
    simp only [good, Bool.and_eq_true] at g
    have := depths_tdeep ds g.2
    simp only [PyData.depth, tdeep]
    omega
  | .none, g => by simp [good] at g
  | .bool _, g => by simp [good] at g
  | .int _, g => by simp [good] at g
  | .list _, g => by simp [good] at g
  | .dict _, g => by simp [good] at g
theorem depths_tdeep : ∀ (ds : List PyData), goods ds = true → PyData.depthAll ds ≤ tdeeps ds
  | [], _ => Nat.le_refl _
  | d :: ds, g => by
    simp only [goods, Bool.and_eq_true] at g
    have h1 := depth_tdeep d g.1
    have h2 := depths_tdeep ds g.2
    simp only [PyData.depthAll, tdeeps]
    omega
end
def cmpOk (d : PyData) : Prop := d.canLay0 = true ∧ d.depth ≤ 20
theorem lay_all {ds : List PyData} (h : ∀ d ∈ ds, cmpOk d) : PyData.canLayAll0 ds = true ∧ PyData.depthAll ds ≤ 20 := by
  induction ds with
  | nil => exact ⟨rfl, Nat.zero_le _⟩
  | cons d r ih =>
    obtain ⟨h1, h2⟩ := h d (List.mem_cons_self ..)
    obtain ⟨h3, h4⟩ := ih fun e he => h e (List.mem_cons_of_mem _ he)
    simp only [PyData.canLayAll0, PyData.depthAll, h1, h3]
    exact ⟨rfl, by omega⟩
theorem shaped_l {ds : List PyData} (h : ∀ d ∈ ds, cmpOk d) : SeqAt.shaped (.list ds) = true := by
  obtain ⟨h1, h2⟩ := lay_all h
  unfold SeqAt.shaped
  simp only [PyData.canLay0, PyData.depth, h1, Bool.true_and]
  exact decide_eq_true (by omega)
theorem shaped_t {ds : List PyData} (h : ∀ d ∈ ds, cmpOk d) : SeqAt.shaped (.tuple ds) = true := by
  obtain ⟨h1, h2⟩ := lay_all h
  unfold SeqAt.shaped
  simp only [PyData.canLay0, PyData.depth, h1, Bool.true_and]
  exact decide_eq_true (by omega)
theorem strOk_lt {z : Str} (h : ∀ c ∈ z.cps.toList, c < 1114112) : PyData.strOk z = true := by
  unfold PyData.strOk
  rw [← Array.all_toList, List.all_eq_true]
  exact fun c hc => decide_eq_true (h c hc)
theorem cmp_src {s : Src} (h : s.ok) : PyData.canLay0 s.py = true ∧ s.py.depth ≤ 14 := by
  have hk : PyData.strOk s.k = true := by rcases kind_cases h with e | e | e <;> rw [e] <;> decide +kernel
  unfold Src.py
  simp only [PyData.canLay0, PyData.canLayAll0, PyData.depth, PyData.depthAll, hk, Bool.true_and, Bool.and_true]
  rcases h with ⟨h1, z, h2, h3⟩ | ⟨h1, h2⟩
  · rw [h2]
    have : PyData.strOk z = true := strOk_lt fun c hc => by have := nameOk_all h3 hc; omega
    simp only [PyData.canLay0, this, PyData.depth]
    exact ⟨trivial, by omega⟩
  · have g := treeOk_good h2
    have := depth_tdeep _ g.g
    have := g.dp
    exact ⟨good_lay _ g.g, by omega⟩
theorem cmp_pr {p : Str × Src} (hn : nameOk p.1 = true) (h : p.2.ok) : cmpOk (prPy p) := by
  obtain ⟨h1, h2⟩ := cmp_src h
  have : PyData.strOk p.1 = true := strOk_lt fun c hc => by have := nameOk_all hn hc; omega
  unfold cmpOk prPy
  simp only [PyData.canLay0, PyData.canLayAll0, PyData.depth, PyData.depthAll, this, h1, Bool.and_true, Bool.true_and]
  exact ⟨trivial, by omega⟩
section
variable {K : PySem.W.Frag} {H : Hp} {Q : VK}
theorem i_ne_l {a b : Addr} {xs ys : List V} {ds es : List PyData} (sa : SqL K H a xs) (sb : SqL K H b ys) (da : Dts K H ds xs) (db : Dts K H es ys) (ca : ∀ d ∈ ds, cmpOk d) (cb : ∀ d ∈ es, cmpOk d) (q : Q (.bl (!PyData.eqvAll ds es)) H) : rNeU K (.ref a) (.ref b) H Q :=
  .inr ⟨.list ds, .list es, .lst sa da.dp, .lst sb db.dp, shaped_l ca, shaped_l cb, by rw [PyData.eqv]; exact q⟩
theorem i_eq_t {x y : V} {ds es : List PyData} (da : Dt K H (.tuple ds) x) (db : Dt K H (.tuple es) y) (ca : ∀ d ∈ ds, cmpOk d) (cb : ∀ d ∈ es, cmpOk d) (q : Q (.bl (PyData.eqvAll ds es)) H) : rEqU K x y H Q :=
  .inr ⟨.tuple ds, .tuple es, da.dp, db.dp, shaped_t ca, shaped_t cb, by rw [PyData.eqv]; exact q⟩
theorem i_ne_t {x y : V} {ds es : List PyData} (da : Dt K H (.tuple ds) x) (db : Dt K H (.tuple es) y) (ca : ∀ d ∈ ds, cmpOk d) (cb : ∀ d ∈ es, cmpOk d) (q : Q (.bl (!PyData.eqvAll ds es)) H) : rNeU K x y H Q :=
  .inr ⟨.tuple ds, .tuple es, da.dp, db.dp, shaped_t ca, shaped_t cb, by rw [PyData.eqv]; exact q⟩
theorem eqvAll_self {ds : List PyData} (ca : ∀ d ∈ ds, cmpOk d) : PyData.eqvAll ds ds = true := SeqAt.eqvAll_refl _ (lay_all ca).1
/- a making -/
def MKO (C : Addr) (sp : Sp) (dvs : List V) (E : XK) (Q : VK) (vs : List V) (H1 : Hp) : Prop := ∀ x dx, H1 x = none → H1 dx = none → dx ≠ x → sp (.ref x :: (vs ++ dvs)) (upd (upd H1 dx (.own x)) x (.ins C dx [])) (fun v H2 => v = .non ∧ Q (.ref x) H2) E
theorem i_make {C : Addr} {sp : Sp} {dvs : List V} {E : XK} {t : TA} {σ : L2.St} (h : t σ H fun vs H1 => MKO C sp dvs E Q vs H1) : tMake C sp dvs E t σ H Q := h
theorem i_mko {C : Addr} {sp : Sp} {dvs : List V} {E : XK} {vs : List V} (h : ∀ x dx H', H x = none → Same H H' → H' x = some (.ins C dx []) → sp (.ref x :: (vs ++ dvs)) H' (fun v H2 => v = .non ∧ Q (.ref x) H2) E) : MKO C sp dvs E Q vs H := fun x dx hx hd hn =>
  h x dx _ hx (fun b o e => by rw [upd_ne (ne_of_none e hx), upd_ne (ne_of_none e hd)]; exact e) upd_same
end
end Aw

namespace Aw
open PySem PySem.Spec PyProof.Rows L2
/-! ### a pot of digits: a list of one number, and what is drawn -/
def Pot (H : Hp) (p : Addr) : Prop := ∃ n : Int, H p = some (.lst [.int n])
theorem Pot.same {H H' : Hp} {p : Addr} (h : Pot H p) (s : Same H H') : Pot H' p := by
  obtain ⟨n, e⟩ := h
  exact ⟨n, s _ _ e⟩
theorem Pot.but {H H' : Hp} {p l : Addr} (h : Pot H p) (b : Bt l H H') (n : p ≠ l) : Pot H' p := by
  obtain ⟨k, e⟩ := h
  exact ⟨k, b _ _ n e⟩
theorem Bt.trans {l : Addr} {H H1 H2 : Hp} (a : Bt l H H1) (b : Bt l H1 H2) : Bt l H H2 := fun c o n e => b c o n (a c o n e)
theorem Bt.refl (l : Addr) (H : Hp) : Bt l H H := fun _ _ _ e => e
theorem Bt.same {l : Addr} {H H' : Hp} (a : Same H H') : Bt l H H' := fun c o _ e => a c o e
theorem Bt.but {p D : Addr} {H0 H H' : Hp} (a : Bt p H0 H) (f : H0 D = none) (b : Bt D H H') : Bt p H0 H' := fun c o n e => b c o (ne_of_none e f) (a c o n e)
theorem Pot.ne {H : Hp} {p D : Addr} (h : Pot H p) (d : H D = none) : p ≠ D := by
  obtain ⟨k, e⟩ := h
  exact ne_of_none e d
theorem Pot.stay {H H' : Hp} {p : Addr} (h : Pot H p) (b : Bt p H H') : Stay H H' := by
  obtain ⟨k, e⟩ := h
  exact .but b e
theorem none_bt {H H' : Hp} {p a : Addr} (s : Bt p H H') (e : H' a = none) (n : a ≠ p) : H a = none := by
  cases h : H a with
  | none => rfl
  | some o => have := s _ _ n h; rw [e] at this; cases this
theorem Stay.pot {H H' : Hp} {p : Addr} (h : Pot H p) (b : Bt p H H') : Stay H H' := h.stay b
theorem dig (n : Int) {m : Nat} (h : 0 < m) : ∃ d : Nat, n.fmod (m : Int) = (d : Int) ∧ d < m := by
  have h1 : 0 ≤ n.fmod (m : Int) := Int.fmod_nonneg_of_pos n (by omega)
  have h2 : n.fmod (m : Int) < m := Int.fmod_lt_of_pos n (by omega)
  exact ⟨(n.fmod m).toNat, by omega, by omega⟩
/-! ### texts that may be parts of a tree; a sign that they have not -/
def qfS (z : Str) : Bool := z.cps.toList.all fun c => decide (c ≠ 113)
def plainQ (c : Nat) : Bool := plainC c && decide (c ≠ 113)
theorem all_plain {l : List Nat} (h : l.all plainQ = true) : l.all plainC = true := by
  rw [List.all_eq_true] at *
  intro c hc
  have := h c hc
  unfold plainQ at this
  rw [Bool.and_eq_true] at this
  exact this.1
theorem all_q {l : List Nat} (h : l.all plainQ = true) : (l.all fun c => decide (c ≠ 113)) = true := by
  rw [List.all_eq_true] at *
  intro c hc
  have := h c hc
  unfold plainQ at this
  rw [Bool.and_eq_true] at this
  exact this.2
mutual
def qf : PyData → Bool
  | .str z => qfS z
  | .tuple ds => qfs ds
  | _ => true
def qfs : List PyData → Bool
  | [] => true
  | d :: ds => qf d && qfs ds
end
theorem qfs_iff : ∀ {ds : List PyData}, qfs ds = true ↔ ∀ d ∈ ds, qf d = true
  | [] => by simp [qfs]
  | d :: ds => by
    unfold qfs
    rw [Bool.and_eq_true, qfs_iff, List.forall_mem_cons]
/-- no source has that sign -/
def QPrs (prs : Prs) : Prop := ∀ p ∈ prs, qfS p.1 = true ∧ qf p.2.x = true
/-- a tree without that sign -/
structure GoodQ (d : PyData) (n m : Nat) : Prop where
  t : GoodT d n m
  q : qf d = true
theorem GoodQ.mono {d : PyData} {n m n' m' : Nat} (h : GoodQ d n m) (a : n ≤ n') (b : m ≤ m') : GoodQ d n' m' := ⟨h.t.mono a b, h.q⟩
theorem GoodQ.row {ds : List PyData} {n m k : Nat} (h : ∀ d ∈ ds, GoodQ d n m) (hk : ds.length ≤ k) (h40 : k ≤ 40) : GoodQ (.tuple ds) (n + 1) (k * m + 1) := ⟨GoodT.row (fun d hd => (h d hd).t) hk h40, qfs_iff.mpr fun d hd => (h d hd).q⟩
def txOk (n : Nat) (z : Str) : Prop := z.length ≤ n ∧ z.cps.toList.all plainQ = true
theorem txOk.mono {n m : Nat} {z : Str} (h : txOk n z) (k : n ≤ m) : txOk m z := ⟨Nat.le_trans h.1 k, h.2⟩
theorem txOk.app {n m : Nat} {a b : Str} (h : txOk n a) (k : txOk m b) : txOk (n + m) (a ++ b) := by
  refine ⟨by rw [app_len]; exact Nat.add_le_add h.1 k.1, ?_⟩
  rw [app_list, List.all_append, h.2, k.2]; rfl
theorem txOk.gd {n : Nat} {z : Str} (h : txOk n z) (k : n ≤ 300) : GoodQ (.str z) 1 (n + 1) := by
  have h2 := all_plain h.2
  refine ⟨⟨?_, ?_, ?_⟩, all_q h.2⟩
  · simp only [good, h2, Bool.and_true, decide_eq_true_eq]; have := h.1; omega
  · simp [tdeep]
  · simp only [tsize]; have := h.1; omega
theorem txOk.join {n : Nat} {z : Str} {k : Nat} : ∀ {ys : List Str}, (∀ y ∈ ys, txOk n y) → txOk k z → txOk (ys.length * (n + k)) (Txt.join z ys) := by
  intro ys h hz
  have e := join_list z ys
  refine ⟨?_, ?_⟩
  · have h1 : (Txt.join z ys).length = (inter z.cps.toList (ys.map (·.cps.toList))).length := by rw [← e, len_list]
    rw [h1]
    refine Nat.le_trans (inter_length _ _) ?_
    rw [List.length_map, len_list]
    have h2 : ((ys.map (·.cps.toList)).map List.length).sum ≤ ys.length * n := by
      clear e h1
      induction ys with
      | nil => simp
      | cons y r ih =>
        have := (h y (List.mem_cons_self ..)).1
        have := ih fun w hw => h w (List.mem_cons_of_mem _ hw)
        rw [List.map_cons, List.map_cons, List.sum_cons, List.length_cons, Nat.succ_mul, len_list]
        omega
    have h3 := Nat.mul_le_mul_left ys.length hz.1
    rw [Nat.mul_add]
    omega
  · rw [e]
    clear e
    induction ys with
    | nil => rfl
    | cons y r ih =>
      have h1 := (h y (List.mem_cons_self ..)).2
      have h2 := ih fun w hw => h w (List.mem_cons_of_mem _ hw)
      cases r with
      | nil => exact h1
      | cons x r =>
        rw [List.map_cons, List.map_cons] at *
        simp only [inter, List.all_append, h1, hz.2, Bool.true_and]
        exact h2
theorem name_tx {n : Nat} {z : Str} (h : nameOk z = true) (k : z.length ≤ n) (hq : qfS z = true) : txOk n z := by
  refine ⟨k, ?_⟩
  rw [List.all_eq_true]
  intro c hc
  have := nameOk_all h hc
  have hq := List.all_eq_true.mp hq c hc
  unfold plainQ
  rw [hq]
  simp only [plainC, Bool.or_eq_true, Bool.and_eq_true, decide_eq_true_eq, and_true]
  omega
/-- a list of names to draw from -/
structure Nms (H : Hp) (a : Addr) (ns : List Str) : Prop where
  at' : H a = some (.lst (ns.map V.str))
  ne : 1 ≤ ns.length
  le : ns.length ≤ 8
  ok : ∀ n ∈ ns, nameOk n = true ∧ n.length ≤ 3 ∧ qfS n = true
theorem Nms.same {H H' : Hp} {a : Addr} {ns : List Str} (h : Nms H a ns) (s : Same H H') : Nms H' a ns := ⟨s _ _ h.at', h.ne, h.le, h.ok⟩
theorem Nms.bt {H H' : Hp} {a p : Addr} {ns : List Str} (h : Nms H a ns) (hp : Pot H p) (b : Bt p H H') : Nms H' a ns := by
  obtain ⟨n, e⟩ := hp
  refine ⟨b.ne e h.at' (fun z => ?_), h.ne, h.le, h.ok⟩
  have h1 := h.ne
  cases ns with
  | nil => simp at h1
  | cons x r =>
    have z : (HO.lst (V.str x :: r.map V.str)) = .lst [V.int n] := z
    injection z with z
    have := (List.cons.inj z).1
    cases this
theorem Nms.but {H H' : Hp} {a D : Addr} {ns : List Str} (h : Nms H a ns) (b : Bt D H H') (n : a ≠ D) : Nms H' a ns := ⟨b _ _ n h.at', h.ne, h.le, h.ok⟩
theorem i_unl {K : PySem.W.Frag} {σ : L2.St} {H : Hp} {n : Nat} {t : TGs} {a : Addr} {xs : List V} {Q : L2.St → Hp → Prop} (s : SqL K H a xs) (e : xs.length = n) (h : t xs σ H Q) : gUnl K n t (.ref a) σ H Q := ⟨a, xs, rfl, s, e, h⟩
theorem pg_unlU {X : Cx} (K : PySem.W.Frag) {es : List Expr} {k n : Nat} {t : TGs} {pos : Pos} (hc : X.calm = true) (hp : PGs X es t) (h : X.K = K := by rfl)
    (hn : (assignEach es X.env).length = n := by rfl) (hst : (assignEach es X.env).findIdx? (·.1) = none := by rfl) : PG X (.Tuple es k pos) (gUnl K n t) := h ▸ pg_unl hc hp hn hst
/-! ### a slice with a step, of a list of ints -/
def StepK (K : PySem.W.Frag) (x : V) (l t : Option Int) (H : Hp) (Q : VK) : Prop := t ≠ some 0 ∧ ∃ (a : Addr) (ns : List Int), x = .ref a ∧ SqL K H a (ns.map V.int) ∧ ∀ p, H p = none → Q (.ref p) (upd H p (.lst ((pickNums ns l none t).map V.int)))
def tStepL (K : PySem.W.Frag) (te tl ts : TE) : TE := fun σ H Q => te σ H fun x H1 => tPart tl σ H1 fun l H2 => tPart ts σ H2 fun t H3 => StepK K x l t H3 Q
theorem i_stepL {K : PySem.W.Frag} {te tl ts : TE} {σ : L2.St} {H : Hp} {Q : VK} (h : te σ H fun x H1 => tPart tl σ H1 fun l H2 => tPart ts σ H2 fun t H3 => StepK K x l t H3 Q) : tStepL K te tl ts σ H Q := h
theorem i_stepk {K : PySem.W.Frag} {H : Hp} {Q : VK} {a : Addr} {ns : List Int} {l t : Option Int} (s : SqL K H a (ns.map V.int)) (ht : t ≠ some 0) (q : ∀ p H', H p = none → Same H H' → H' p = some (.lst ((pickNums ns l none t).map V.int)) → Q (.ref p) H') : StepK K (.ref a) l t H Q :=
  ⟨ht, a, ns, rfl, s, fun p hp => q p _ hp (same_new hp _) upd_same⟩
theorem pe_stepL {X : Cx} {K : PySem.W.Frag} {e lo st : Expr} {te tl ts : TE} {p3 pos : Pos} (he : PE X e te) (hl : PE X lo tl) (hs : PE X st ts) (hK : X.K = K := by rfl) : PE X (.Subscript e (.Slice (some lo) none (some st) p3) pos) (tStepL K te tl ts) := by
  subst hK
  refine ⟨fun pins s σ H Q I h => ?_⟩
  refine Subscript_ (thn (he.run pins s σ H _ I h) fun v s1 ⟨x, H1, I1, r1, q1⟩ => ?_)
  refine wpAny_Slice (thn ((po_some hl).run pins s1 σ H1 _ I1 q1) fun vl s2 ⟨l, H2, I2, pl, q2⟩ => ?_)
  refine thn (po_none.run pins s2 σ H2 (fun o H3 => o = none ∧ H3 = H2) I2 ⟨rfl, rfl⟩) fun vu s3 ⟨u, H3, I3, pu, eu, e3⟩ => ?_
  subst eu e3
  refine thn ((po_some hs).run pins s3 σ H3 _ I3 q2) fun vs s4 ⟨o, H4, I4, ps, q3⟩ => ?_
  obtain ⟨ht, a, ns, ex, hx, q⟩ := q3
  subst ex
  cases r1
  have I5 : Inv X pins σ H4 { s4 with heap := s4.heap.push { cls := .type "slice", data := .fields #[vl, vu, vs] } } := I4.kept (t' := s4.toks) fun b ob q => Heap.get?_push_of_some _ q
  obtain ⟨its, r, hli, hz⟩ := I5.list hx
  have hlen := r.length
  show wpAny (model X.prog X.w) X.A (subscriptTail e (.Slice (some lo) none (some st) p3) (.ref a) (.ref s4.heap.objs.size)) (EP X pins σ Q) X.xe { s4 with heap := s4.heap.push { cls := .type "slice", data := .fields #[vl, vu, vs] } }
  refine tail_any (ops := [.ref a, .ref s4.heap.objs.size]) hli.isList.typeIs (PySem.slot_list_getitem.lookup) ?_ (by with_unfolding_all rfl)
  refine wpAny_getItem_list_slice hli.isList (Heap.IsSliceOf.new _ vl vu vs) pl pu ps ht ?_ (by rw [List.size_toArray]; omega)
  have hi := r.ints.pick l none o
  refine ⟨.ref _, _, I5.laid (t' := s4.toks) (o := .lst ((pickNums ns l none o).map V.int)) (fun b ob q => Heap.get?_push_of_some _ q) (Nat.le_refl _) ?_, rfl, q _ (I5.hok.fresh (Nat.le_refl _))⟩
  exact ⟨by rw [List.length_map]; exact Nat.le_trans (length_pickNums_le r.ints l none o) (by rw [List.length_map] at hz; exact hz), _, 0, vals_of_ints hi, Heap.get?_push_size _ rfl⟩
theorem pe_cal0 {X : Cx} {k n : Nat} {x : Str} {ps : List Str} {sp : Sp} {p pos : Pos} (C : Cal X.prog X.w X.K X.mg X.base CX0 x ps k sp) (hr : Room n X.A) (hg : Gl X x) (hk : k ≤ n := by decide) (hdb : (x == ("__debug__" : Str)) = false := by decide) : PE X (.Call (.Name x p) [] [] pos) (tCall sp [] E0 tNil) := by
  obtain ⟨f, fd, F, hm, hkp, hb⟩ := C.ex
  exact pe_call0 F (hr.mono hk) hg hm hkp hb .nil pass0 hdb
/-! ### list(d.items()) -/
def ItK (x : V) (H : Hp) (Q : VK) : Prop := LiI.rItemsL x H Q
theorem i_items {te : TE} {σ : L2.St} {H : Hp} {Q : VK} (h : te σ H fun x H1 => ItK x H1 Q) : LiI.tListItems te σ H Q := h
theorem i_itk {H : Hp} {Q : VK} {d : Addr} {kvs : List (Key × V)} (e : H d = some (.dK kvs)) (q : ∀ (H' : Hp) (p : Addr) (ts : List Addr), Same H H' → H p = none → H' p = some (.lst (ts.map V.ref)) → Paired (fun (t : Addr) (q : Key × V) => H' t = some (.tup [kV q.1, q.2])) ts kvs → Q (.ref p) H') : ItK (.ref d) H Q :=
  ⟨d, kvs, rfl, e, fun H' p ts k hp _ _ e' pr => q H' p ts k hp e' pr⟩
end Aw

/-! sorted of a list of pairs whose first items are texts, no two alike -/
namespace AwS
open PySem PyProof.Rows
/-- v is a pair, its first item the text n -/
def HasNm (h : Heap) (v : Value) (n : Str) : Prop := ∃ (a : Addr) (o : Obj) (k : Nat) (t : Tok) (y : Addr), v = .ref a ∧ h.get? a = some o ∧ o.cls = .type "tuple" ∧ o.data = .seq #[.str n t, .ref y] k
theorem HasNm.keeps {h h' : Heap} {v : Value} {n : Str} (x : HasNm h v n) (k : ∀ b o, h.get? b = some o → o.cls = .type "tuple" → h'.get? b = some o) : HasNm h' v n := by
  obtain ⟨a, o, j, t, y, e, ho, hc, hd⟩ := x
  exact ⟨a, o, j, t, y, e, k a o ho hc, hc, hd⟩
theorem HasNm.fn {h : Heap} {v : Value} {n m : Str} (x : HasNm h v n) (y : HasNm h v m) : n = m := by
  obtain ⟨a, o, j, t, b, rfl, ho, _, hd⟩ := x
  obtain ⟨a', o', j', t', b', e, ho', _, hd'⟩ := y
  cases e
  rw [ho] at ho'
  cases ho'
  rw [hd] at hd'
  injection hd' with e1 e2
  have := congrArg (fun q : Array Value => q[0]?) e1
  simp at this
  exact this.1
section
variable {prog : Program} {w : World} {A : Around} {E : Value → Shared → Prop} {s : Shared}
theorem eqBool_self {b : Addr} {Q : Bool → Shared → Prop} (h : Q true s) : wpAny (model prog w) A (eqBool (.ref b) (.ref b)) Q E s := by
  unfold eqBool
  refine wpAny_holding ?_
  refine wpAny_ite_split (fun _ => wpAny_bind (wpAny_rule (wpAny_pure h))) (fun hab => absurd (beq_self_eq_true _) hab)
theorem firsts_nm {h : Heap} : ∀ vs : List Value, (∀ v ∈ vs, ∃ n, HasNm h v n) → ∃ fs, PySem.W.KatTups h vs fs ∧ fs.length = vs.length ∧ ∀ f, f ∈ fs → ∃ n t, f = Value.str n t
  | [], _ => ⟨[], PySem.W.KatTups.nil, rfl, fun f hf => by simp at hf⟩
  | v :: vs, x => by
    obtain ⟨fs, k, hl, hi⟩ := firsts_nm vs fun u hu => x u (List.mem_cons_of_mem _ hu)
    obtain ⟨n, a, o, j, t, y, rfl, ho, hc, hd⟩ := x v (List.mem_cons_self ..)
    refine ⟨.str n t :: fs, PySem.W.KatTups.cons ho hc hd rfl k, by simp [hl], ?_⟩
    intro f hf
    rcases List.mem_cons.mp hf with rfl | hf
    · exact ⟨n, t, rfl⟩
    · exact hi f hf
theorem kind_nms {vs : List Value} (h2 : 2 ≤ vs.length) (x : ∀ v ∈ vs, ∃ n, HasNm s.heap v n) (u : ∀ v ∈ vs, ∀ y ∈ vs, ∀ n, HasNm s.heap v n → HasNm s.heap y n → v = y) (r : Value → Int)
    (hr : ∀ v ∈ vs, ∀ n, HasNm s.heap v n → ∀ y ∈ vs, ∀ m, HasNm s.heap y m → decide (r v < r y) = decide (n.cps.toList < m.cps.toList)) (Q : SortKind → Shared → Prop)
    (h : ∀ κ, TS.Cmp prog w A s κ (pairsOf vs) r → Q κ s) : wpAny (model prog w) A (keyKind' vs.toArray) Q E s := by
  obtain ⟨fs, k, hl, hi⟩ := firsts_nm vs x
  refine PySem.W.kat_kind (T := Value.type "str") k (by omega) (fun f hf => ?_) rfl (h _ ?_)
  · obtain ⟨n, t, rfl⟩ := hi f hf
    exact PySem.W.Looks.of_pure rfl
  · intro p q hp hq Q' E' hQ
    rw [pairsOf_toList] at hp hq
    have mp := (PyProof.Rows.mem_zip_self hp).2
    have mq := (PyProof.Rows.mem_zip_self hq).2
    obtain ⟨n, hn⟩ := x _ mp
    obtain ⟨m, hm⟩ := x _ mq
    have e := hr _ mp _ hn _ mq _ hm
    rw [e] at hQ
    have un := u _ mp _ mq
    obtain ⟨a, o, j, t, y, e1, ho, hc, hd⟩ := id hn
    obtain ⟨a', o', j', t', y', e2, ho', hc', hd'⟩ := id hm
    by_cases hnm : n = m
    · subst hnm
      have ev := un n hn hm
      rw [e1, e2] at ev
      have ea : a = a' := by injection ev
      subst ea
      rw [ho] at ho'
      cases ho'
      rw [hd] at hd'
      have ey : y = y' := by
        injection hd' with z1 z2
        have := congrArg (fun q : Array Value => q[1]?) z1
        simpa using this
      subst ey
      rw [e1, e2]
      refine PySem.W.kat_lt ho hd ho (by rw [hd, hd']) ?_
      have hq : Q' false s := by
        rw [decide_eq_false (List.lt_irrefl _)] at hQ
        exact hQ
      refine PySem.W.kat_cons (wpAny_eqBool_str ?_)
      rw [decide_eq_true rfl]
      refine PySem.W.kat_yes ?_
      refine PySem.W.kat_cons (eqBool_self ?_)
      refine PySem.W.kat_yes ?_
      exact PySem.W.kat_nil hq
    · rw [e1, e2]
      refine PySem.W.kat_lt ho hd ho' hd' ?_
      refine PySem.W.kat_cons (wpAny_eqBool_str ?_)
      rw [decide_eq_false hnm]
      exact PySem.W.kat_no (PyProof.Rows.oneLt_any_str hQ)
theorem sort_nms {a : Addr} {vs : List Value} {n : Nat} {P : PySem.Fin → Shared → Prop} (ho : s.heap.get? a = some (seqObj "list" vs.toArray n)) (h64 : vs.length < 64) (x : ∀ v ∈ vs, ∃ n, HasNm s.heap v n) (u : ∀ v ∈ vs, ∀ y ∈ vs, ∀ n, HasNm s.heap v n → HasNm s.heap y n → v = y) (r : Value → Int)
    (hr : ∀ v ∈ vs, ∀ n, HasNm s.heap v n → ∀ y ∈ vs, ∀ m, HasNm s.heap y m → decide (r v < r y) = decide (n.cps.toList < m.cps.toList))
    (h : ∀ out : Array Value, out.toList.Perm vs → out.toList.Pairwise (fun u v => r u ≤ r v) → P (.done (.ret .none)) { s with heap := sortedHeap s.heap a vs out }) :
    wpAny (model prog w) A (Builtin.«list.sort» ⟨[.ref a], []⟩) P E s := by
  have keep : ∀ b o, s.heap.get? b = some o → o.cls = .type "tuple" → (TS.midHeap s.heap a vs).get? b = some o := fun b o e hc => by
    refine TS.midHeap_old ?_ e
    rintro rfl
    rw [ho] at e
    have e' : seqObj "list" vs.toArray n = o := Option.some.inj e
    rw [← e'] at hc
    have c' : Value.type "list" = Value.type "tuple" := hc
    injection c' with c''
    exact absurd c'' (by decide)
  have back : ∀ v ∈ vs, ∀ n, HasNm (TS.midHeap s.heap a vs) v n → HasNm s.heap v n := fun v hv n q => by
    obtain ⟨m, hm⟩ := x v hv
    have := (hm.keeps keep).fn q
    rw [← this]; exact hm
  refine SK.plain_sort (r := r) ho h64 (fun h2 Q hQ => ?_) fun ps out h1 h2 h3 => ?_
  · refine kind_nms (s := { s with heap := TS.midHeap s.heap a vs }) h2 (fun v hv => ?_) (fun v hv y hy n q1 q2 => u v hv y hy n (back v hv n q1) (back y hy n q2)) r (fun v hv n q1 y hy m q2 => hr v hv n (back v hv n q1) y hy m (back y hy m q2)) Q hQ
    obtain ⟨n, hn⟩ := x v hv
    exact ⟨n, hn.keeps keep⟩
  · obtain ⟨p, o⟩ := TS.out_rank h1 h2 h3
    exact h out p o
theorem sorted_nms {l : Addr} {vs : List Value} {Q : Value → Shared → Prop} (hl : s.heap.IsList l vs.toArray) (h64 : vs.length < 64) (x : ∀ v ∈ vs, ∃ n, HasNm s.heap v n) (u : ∀ v ∈ vs, ∀ y ∈ vs, ∀ n, HasNm s.heap v n → HasNm s.heap y n → v = y) (r : Value → Int)
    (hr : ∀ v ∈ vs, ∀ n, HasNm s.heap v n → ∀ y ∈ vs, ∀ m, HasNm s.heap y m → decide (r v < r y) = decide (n.cps.toList < m.cps.toList))
    (h : ∀ out : Array Value, out.toList.Perm vs → out.toList.Pairwise (fun u v => r u ≤ r v) → Q (.ref (s.heap.objs.size + 1)) { s with heap := sortedAll s.heap vs out }) :
    wpAny (model prog w) A (call (.builtin "sorted") [.ref l]) Q E s := by
  refine Calls.call_function_entry kind_sorted plain_sorted entry_sorted (args_sorted1 _) ?_
  unfold Builtin.«sorted»
  refine wpAny_bind (m := checkCount "sorted" 1 1 _) (wpAny_pure ?_)
  refine wpAny_bind (collect_list hl ?_ (by rw [sizeLine_eq]; omega))
  refine wpAny_bind (wpAny_newList ?_ (by rw [sizeLine_eq]; omega))
  have hsz : ((s.heap.push (seqObj "list" #[] 0)).update s.heap.objs.size (Obj.mapSeq (· ++ vs.toArray))).objs.size = s.heap.objs.size + 1 := by
    rw [Heap.size_update, size_push']
  have hoL : (((s.heap.push (seqObj "list" #[] 0)).update s.heap.objs.size (Obj.mapSeq (· ++ vs.toArray))).push (seqObj "list" vs.toArray 0)).get? (s.heap.objs.size + 1) = some (seqObj "list" vs.toArray 0) := by
    rw [← hsz]; exact Heap.get?_push_size _ rfl
  have keep : ∀ b o, s.heap.get? b = some o → o.cls = .type "tuple" → (((s.heap.push (seqObj "list" #[] 0)).update s.heap.objs.size (Obj.mapSeq (· ++ vs.toArray))).push (seqObj "list" vs.toArray 0)).get? b = some o := fun b o q _ => by
    have hlt : b < s.heap.objs.size := Heap.lt_size q
    rw [Heap.get?_push_ne _ _ _ (by rw [hsz]; exact Nat.ne_of_lt (Nat.lt_succ_of_lt hlt)), Heap.get?_update_ne _ _ _ _ (Nat.ne_of_lt hlt), Heap.get?_push_ne _ _ _ (Nat.ne_of_lt hlt)]
    exact q
  have back : ∀ v ∈ vs, ∀ n, HasNm (((s.heap.push (seqObj "list" #[] 0)).update s.heap.objs.size (Obj.mapSeq (· ++ vs.toArray))).push (seqObj "list" vs.toArray 0)) v n → HasNm s.heap v n := fun v hv n q => by
    obtain ⟨m, hm⟩ := x v hv
    have := (hm.keeps keep).fn q
    rw [← this]; exact hm
  show wpAny _ _ _ _ _ { s with heap := ((s.heap.push (seqObj "list" #[] 0)).update s.heap.objs.size (Obj.mapSeq (· ++ vs.toArray))).push (seqObj "list" vs.toArray 0) }
  rw [hsz]
  refine wpAny_bind (wpAny_holding (wpAny_call_entry slot_list_sort ⟨_, hoL, rfl⟩ entry_list_sort (sort_nms hoL h64 (fun v hv => ?_) (fun v hv y hy n q1 q2 => u v hv y hy n (back v hv n q1) (back y hy n q2)) r (fun v hv n q1 y hy m q2 => hr v hv n (back v hv n q1) y hy m (back y hy m q2)) fun out a1 a2 => ⟨_, rfl, ?_⟩) (args_list_sort _)))
  · obtain ⟨n, hn⟩ := x v hv
    exact ⟨n, hn.keeps keep⟩
  · exact wpAny_pure ⟨_, rfl, h out a1 a2⟩
end
end AwS
namespace AwS
open PySem PyProof.Rows
theorem lt_or_ge' (a b : List Nat) : a < b ∨ ¬ a < b := Classical.em _
theorem lt_trans' {a b c : List Nat} (h1 : a < b) (h2 : b < c) : a < c := List.lt_trans h1 h2
/-- how many of ns stand ahead of n -/
def rk (ns : List Str) (n : Str) : Nat := ns.countP fun m => decide (m.cps.toList < n.cps.toList)
theorem rk_le {ns : List Str} {n m : Str} (h : ¬ n.cps.toList < m.cps.toList) : rk ns m ≤ rk ns n := by
  unfold rk
  refine List.countP_mono_left fun x _ hx => ?_
  have hx := of_decide_eq_true hx
  refine decide_eq_true ?_
  by_cases k : x.cps.toList < n.cps.toList
  · exact k
  · exact absurd (List.lt_of_le_of_lt (show n.cps.toList ≤ x.cps.toList from k) hx) h
theorem count_lt {p q : Str → Bool} : ∀ {l : List Str} {x : Str}, x ∈ l → (∀ y, p y = true → q y = true) → p x = false → q x = true → l.countP p < l.countP q
  | y :: l, x, hm, h, h1, h2 => by
    rcases List.mem_cons.mp hm with rfl | hm
    · rw [List.countP_cons_of_neg (by rw [h1]; decide), List.countP_cons_of_pos h2]
      exact Nat.lt_succ_of_le (List.countP_mono_left fun z _ => h z)
    · have ih := count_lt hm h h1 h2
      rw [List.countP_cons, List.countP_cons]
      have : (if p y = true then 1 else 0) ≤ (if q y = true then 1 else 0) := by
        by_cases e : p y = true
        · rw [if_pos e, if_pos (h y e)]; exact Nat.le_refl _
        · rw [if_neg e]; exact Nat.zero_le _
      omega
theorem rk_lt {ns : List Str} {n m : Str} (hn : n ∈ ns) (h : n.cps.toList < m.cps.toList) : rk ns n < rk ns m := by
  unfold rk
  refine count_lt hn (fun y hy => ?_) (decide_eq_false (List.lt_irrefl _)) (decide_eq_true h)
  exact decide_eq_true (lt_trans' (of_decide_eq_true hy) h)
theorem rk_dec {ns : List Str} {n m : Str} (hn : n ∈ ns) : decide ((rk ns n : Int) < (rk ns m : Int)) = decide (n.cps.toList < m.cps.toList) := by
  by_cases h : n.cps.toList < m.cps.toList
  · have := rk_lt hn h
    rw [decide_eq_true h]
    exact decide_eq_true (by omega)
  · have := rk_le (ns := ns) h
    rw [decide_eq_false h]
    exact decide_eq_false (by omega)
open Classical in
noncomputable def nmOf (h : Heap) (v : Value) : Str := if x : ∃ n, HasNm h v n then x.choose else Str.empty
theorem nmOf_eq {h : Heap} {v : Value} {n : Str} (x : HasNm h v n) : nmOf h v = n := by
  unfold nmOf
  have e : ∃ n, HasNm h v n := ⟨n, x⟩
  rw [dif_pos e]
  exact e.choose_spec.fn x
end AwS
namespace Aw
open PySem PySem.Spec PyProof.Rows L2
def rSortNm (K : PySem.W.Frag) : List V → Hp → VK → Prop := fun vs H Q => ∃ (a : Addr) (xs : List V) (prs : Prs), vs = [.ref a] ∧ SqL K H a xs ∧ Dts K H (prs.map prPy) xs ∧ (names prs).Nodup ∧ prs.length < 64 ∧
  ∀ ys p, Dts K H ((srtP prs).map prPy) ys → H p = none → Q (.ref p) (upd H p (.lst ys))
theorem dt_pr {K : PySem.W.Frag} {X : Cx} {pins : List (Addr × Obj)} {σ : L2.St} {H : Hp} {s : Shared} (I : Inv X pins σ H s) {p : Str × Src} {v : V} (h : Dt X.K H (prPy p) v) {u : Value} (r : RelV v u) : ∃ t, u = .ref t ∧ v = .ref t ∧ AwS.HasNm s.heap u p.1 := by
  have h : Dt X.K H (.tuple [.str p.1, p.2.py]) v := h
  obtain ⟨t, xs, rfl, hs, hq⟩ := h.tup
  obtain ⟨x, r1, rfl, hx, hq⟩ := hq.cons
  obtain ⟨y, r2, rfl, hy, hq⟩ := hq.cons
  rw [hq.nil] at hs
  cases r
  have e := hx.str
  subst e
  obtain ⟨b, _, rfl, _⟩ := hy.tup
  obtain ⟨its, rv, ht, _⟩ := I.tuple hs
  refine ⟨t, rfl, rfl, ?_⟩
  cases rv with
  | cons r1 r2 =>
    cases r2 with
    | cons r2 r3 =>
      cases r3
      obtain ⟨tk, rfl⟩ := r1
      cases r2
      obtain ⟨o, ho, hc, k, hd⟩ := ht
      exact ⟨t, o, k, tk, b, rfl, ho, hc, hd⟩
theorem dts_vals {X : Cx} {pins : List (Addr × Obj)} {σ : L2.St} {H : Hp} {s : Shared} (I : Inv X pins σ H s) : ∀ {prs : Prs} {xs : List V} {us : List Value}, Dts X.K H (prs.map prPy) xs → Vals xs us → us.map (AwS.nmOf s.heap) = names prs ∧ xs = us.map bkV ∧
    ∀ u ∈ us, ∃ p ∈ prs, AwS.HasNm s.heap u p.1 ∧ Dt X.K H (prPy p) (bkV u) ∧ ∃ t, u = .ref t
  | [], xs, us, h, r => by
    have e := h.nil
    subst e
    cases r
    exact ⟨rfl, rfl, fun u hu => absurd hu (by simp)⟩
  | p :: prs, xs, us, h, r => by
    obtain ⟨v, vs, rfl, hv, hr⟩ := h.cons
    cases r with
    | cons r1 r2 =>
      obtain ⟨t, rfl, rfl, hn⟩ := dt_pr (K := X.K) I hv r1
      obtain ⟨k1, k2, k3⟩ := dts_vals I hr r2
      refine ⟨?_, ?_, ?_⟩
      · rw [List.map_cons, k1, AwS.nmOf_eq hn]; rfl
      · rw [List.map_cons, ← k2]; rfl
      · intro u hu
        rcases List.mem_cons.mp hu with rfl | hu
        · exact ⟨p, List.mem_cons_self .., hn, hv, t, rfl⟩
        · obtain ⟨q, hq, h1, h2, h3⟩ := k3 u hu
          exact ⟨q, List.mem_cons_of_mem _ hq, h1, h2, h3⟩
theorem dts_out {X : Cx} {H : Hp} {h : Heap} {prs : Prs} : ∀ {us : List Value}, (∀ u ∈ us, ∃ p ∈ prs, AwS.HasNm h u p.1 ∧ Dt X.K H (prPy p) (bkV u) ∧ ∃ t, u = .ref t) → ∃ qs : Prs, Dts X.K H (qs.map prPy) (us.map bkV) ∧ (∀ q ∈ qs, q ∈ prs) ∧ names qs = us.map (AwS.nmOf h)
  | [], _ => ⟨[], dts_nil, by simp, rfl⟩
  | u :: us, k => by
    obtain ⟨qs, h1, h2, h3⟩ := dts_out (us := us) fun z hz => k z (List.mem_cons_of_mem _ hz)
    obtain ⟨p, hp, g1, g2, _⟩ := k u (List.mem_cons_self ..)
    refine ⟨p :: qs, dts_cons g2 h1, ?_, ?_⟩
    · intro q hq
      rcases List.mem_cons.mp hq with rfl | hq
      · exact hp
      · exact h2 q hq
    · show p.1 :: names qs = _
      rw [h3, List.map_cons, AwS.nmOf_eq g1]
theorem cr_sortNm {X : Cx} : CallR X (.builtin "sorted") (rSortNm X.K) := by
  intro pins s σ H vs us Q I r h
  obtain ⟨a, xs, prs, rfl, hs, hd, nd, h64, q⟩ := h
  obtain ⟨its, rv, hl, hz⟩ := I.list hs
  rw [Vals.ref1 r]
  obtain ⟨e1, e2, e3⟩ := dts_vals I hd rv
  have hlen : its.length = prs.length := by
    have := congrArg List.length e1
    unfold names at this
    rw [List.length_map, List.length_map] at this
    exact this
  have hmem : ∀ v ∈ its, ∀ n, AwS.HasNm s.heap v n → n ∈ names prs := fun v hv n hn => by
    rw [← e1, ← AwS.nmOf_eq hn]
    exact List.mem_map_of_mem hv
  have hun : ∀ v ∈ its, ∀ y ∈ its, ∀ n, AwS.HasNm s.heap v n → AwS.HasNm s.heap y n → v = y := by
    intro v hv y hy n h1 h2
    obtain ⟨i, hi, ei⟩ := List.mem_iff_getElem.mp hv
    obtain ⟨j, hj, ej⟩ := List.mem_iff_getElem.mp hy
    have a1 : (names prs)[i]? = some n := by rw [← e1, List.getElem?_map, List.getElem?_eq_getElem hi, ei]; show some (AwS.nmOf s.heap v) = _; rw [AwS.nmOf_eq h1]
    have a2 : (names prs)[j]? = some n := by rw [← e1, List.getElem?_map, List.getElem?_eq_getElem hj, ej]; show some (AwS.nmOf s.heap y) = _; rw [AwS.nmOf_eq h2]
    have := nd_ix nd a1 a2
    subst this
    rw [← ei, ← ej]
  refine AwS.sorted_nms hl.isList (by omega) (fun v hv => ?_) hun (fun v => (AwS.rk (names prs) (AwS.nmOf s.heap v) : Nat)) (fun v hv n hn y hy m hm => ?_) fun out h1 h2 => ?_
  · obtain ⟨p, _, hp, _⟩ := e3 v hv
    exact ⟨_, hp⟩
  · rw [AwS.nmOf_eq hn, AwS.nmOf_eq hm]
    exact AwS.rk_dec (hmem v hv n hn)
  · obtain ⟨ep, he'⟩ := PyProof.Rows.sortedAll_at s.heap its out
    obtain ⟨qs, g1, g2, g3⟩ := dts_out (X := X) (H := H) (h := s.heap) (prs := prs) (us := out.toList) fun u hu => e3 u (h1.mem_iff.mp hu)
    have hq : qs = srtP prs := by
      refine srtP_unique nd g2 ?_
      refine srtN_unique ?_ ?_
      · rw [g3, ← e1]
        exact h1.map _
      · rw [g3, List.pairwise_map]
        refine List.Pairwise.imp_of_mem (fun {u v} hu hv h => ?_) h2
        unfold leS
        have hm2 : AwS.nmOf s.heap v ∈ names prs := by
          rw [← e1]
          exact List.mem_map_of_mem (h1.mem_iff.mp hv)
        have : ¬ (AwS.nmOf s.heap v).cps.toList < (AwS.nmOf s.heap u).cps.toList := fun hlt => by
          have := AwS.rk_lt hm2 hlt
          omega
        rw [decide_eq_false this]; rfl
    subst hq
    have h3 : ∀ u ∈ out.toList, ∃ a, u = Value.ref a := fun u hu => by
      obtain ⟨_, _, _, _, t, e⟩ := e3 u (h1.mem_iff.mp hu)
      exact ⟨t, e⟩
    have hzz : (out.toList.map bkV).length ≤ sizeLine := by
      rw [List.length_map, h1.length_eq, hlen, sizeLine_eq]
      omega
    exact ⟨.ref _, upd H (s.heap.objs.size + 1) (.lst (out.toList.map bkV)), I.laid (t' := s.toks) (fun _ _ => PyProof.Rows.sortedAll_old) (Nat.le_succ _) ⟨hzz, out.toList, ep, bkV_vals h3, he'⟩, rfl, q _ _ g1 (I.hok.fresh (Nat.le_succ _))⟩
theorem call_sortNmU {X : Cx} (K : PySem.W.Frag) (h : X.K = K := by rfl) : CallR X (.builtin "sorted") (rSortNm K) := h ▸ cr_sortNm
theorem i_sortNm {K : PySem.W.Frag} {H : Hp} {Q : VK} {a : Addr} {xs : List V} {prs : Prs} (s : SqL K H a xs) (d : Dts K H (prs.map prPy) xs) (nd : (names prs).Nodup) (l : prs.length < 64) (q : ∀ p H' ys, H p = none → Same H H' → H' p = some (.lst ys) → Dts K H' ((srtP prs).map prPy) ys → Q (.ref p) H') : rSortNm K [.ref a] H Q :=
  ⟨a, xs, prs, rfl, s, d, nd, l, fun ys p hd hp => q p _ ys hp (same_new hp _) upd_same (hd.mono (.same (same_new hp _)))⟩
end Aw

namespace Aw
open PySem PySem.Spec PyProof.Rows L2
section
variable {X : Cx} {k n : Nat} {x : Str} {ps : List Str} {sp : Sp} {E : L2.St → XK} {CX : CXT} {e : Expr} {es : List Expr} {t : TA} {p pos : Pos}
theorem pe_calS (C : Cal X.prog X.w X.K X.mg X.base CX x ps k sp) (hr : Room n X.A) (hg : Gl X x) (hx : ∀ σ, PassesAt CX X σ (E σ)) (ha : PA X (e :: es) t) (hk : k ≤ n := by decide) (hdb : (x == ("__debug__" : Str)) = false := by decide)
    (he : starEach (e :: es) X.env = (false, eval e X.env) :: starEach es X.env := by rfl) (hpl : (backTo pos (starEach es X.env)).any (·.1) = false := by rfl) : PE X (.Call (.Name x p) (e :: es) [] pos) (tCallS sp E t) := by
  obtain ⟨f, fd, F, hm, hkp, hb⟩ := C.ex
  exact pe_callS F (hr.mono hk) hg hm hkp hb hx ha hdb he hpl
end
theorem i_callS {sp : Sp} {E : L2.St → XK} {t : TA} {σ : L2.St} {H : Hp} {Q : VK} (h : t σ H fun vs H1 => sp vs H1 Q (E σ)) : tCallS sp E t σ H Q := h
def XFK (a : Addr) (cls : Value) (d : Option Addr) (C : Addr) (f : Str) (x : V) (H1 : Hp) (Q : VK) : Prop := x = .ref a ∧ cls = .ref C ∧ ∃ (dd : Addr) (fs : List (Str × V)) (v : V), d = some dd ∧ H1 dd = some (.xd fs) ∧ fs.lookup f = some v ∧ Q v H1
theorem i_xf {a C : Addr} {cls : Value} {d : Option Addr} {f : Str} {te : TE} {σ : L2.St} {H : Hp} {Q : VK} (h : te σ H fun x H1 => XFK a cls d C f x H1 Q) : tXf a cls d C f te σ H Q := h
theorem i_xfk {a C dd : Addr} {f : Str} {H1 : Hp} {Q : VK} {fs : List (Str × V)} {v : V} (e : H1 dd = some (.xd fs)) (l : fs.lookup f = some v) (q : Q v H1) : XFK a (.ref C) (some dd) C f (.ref a) H1 Q := ⟨rfl, rfl, dd, fs, v, rfl, e, l, q⟩
def RVK (K : PySem.W.Frag) (x : V) (H1 : Hp) (Q : VK) : Prop := ∃ a xs, x = .ref a ∧ SqL K H1 a xs ∧ ∀ p, H1 p = none → Q (.ref p) (upd H1 p (.lst xs.reverse))
theorem i_revL {K : PySem.W.Frag} {te : TE} {σ : L2.St} {H : Hp} {Q : VK} (h : te σ H fun x H1 => RVK K x H1 Q) : tRevL K te σ H Q := h
theorem i_rvk {K : PySem.W.Frag} {H1 : Hp} {Q : VK} {a : Addr} {xs : List V} (s : SqL K H1 a xs) (q : ∀ p H', H1 p = none → Same H1 H' → H' p = some (.lst xs.reverse) → Q (.ref p) H') : RVK K (.ref a) H1 Q := ⟨a, xs, rfl, s, fun p hp => q p _ hp (same_new hp _) upd_same⟩
theorem pe_revLU {X : Cx} (K : PySem.W.Frag) {e : Expr} {te : TE} {k : Nat} {p1 p2 p3 pos : Pos} (he : PE X e te) (h : X.K = K := by rfl) : PE X (.Subscript e (.Slice none none (some (.UnaryOp .USub (.Constant (.int 1) k p1) p2)) p3) pos) (tRevL K te) := h ▸ pe_revL he
theorem Dts.reverse {K : PySem.W.Frag} {H : Hp} : ∀ {ds : List PyData} {vs : List V}, Dts K H ds vs → Dts K H ds.reverse vs.reverse
  | [], _, h => by rw [h.nil]; exact dts_nil
  | d :: ds, _, h => by
    obtain ⟨v, r, rfl, hv, hr⟩ := h.cons
    rw [List.reverse_cons, List.reverse_cons]
    exact (Dts.reverse hr).snoc hv
theorem PrsOk.reverse {prs : Prs} (h : PrsOk prs) : PrsOk prs.reverse where
  nm := fun p hp => h.nm p (List.mem_reverse.mp hp)
  sr := fun p hp => h.sr p (List.mem_reverse.mp hp)
  nd := by
    unfold names
    rw [List.map_reverse]
    exact (List.reverse_perm _).nodup_iff.mpr h.nd
  ln := by rw [List.length_reverse]; exact h.ln
end Aw

namespace Aw
open PySem PySem.Spec PyProof.Rows L2
/-! ### int of a text -/
def rIntT : List V → Hp → VK → Prop := fun xs H Q => ∃ (z : Str) (n : Int), xs = [.str z] ∧ PySem.intText? z = some n ∧ z.length ≤ 640 ∧ Q (.int n) H
theorem call_intT {X : Cx} : CallR X (.type "int") rIntT := by
  intro pins s σ H xs us Q I r h
  obtain ⟨z, n, rfl, hn, hl, q⟩ := h
  cases r with
  | cons r1 r2 =>
    cases r2
    obtain ⟨t, rfl⟩ := r1
    exact PySem.W.KIN.call_text hn hl ⟨.int n, H, I.tok _, ⟨_, rfl⟩, q⟩
/-! ### a dict of the module, its keys texts -/
structure KDk (K : PySem.W.Frag) (w : World) (a : Addr) (kvs : List (Str × V)) : Prop where
  ex : ∃ es n, K.lookup a = some ⟨.type "dict", none, .dict es n, #[]⟩ ∧ PySem.W.KeysLit w.params es.toList ∧ (∀ x : Str, RelO (kvs.lookup x) (findBy Value.isStrOf es x))
  low : (a == sysModules) = false
theorem KDk.map {K : PySem.W.Frag} {w : World} {P : Program} {a : Addr} {kvs : List (Str × V)} {h : Heap} (k : KDk K w a kvs) (X : K.In h) : ∃ f : Str → Option Value, h.MapOf (strKind P w) a f ∧ ∀ x, RelO (kvs.lookup x) (f x) := by
  obtain ⟨es, n, hl, hk, hr⟩ := k.ex
  exact ⟨_, PySem.W.mapOf_K X hl hk, hr⟩
def tKGet2 (K : PySem.W.Frag) (w : World) (td ty tx : TE) : TE := fun σ H Q => td σ H fun x H1 => ∃ a kvs, x = .ref a ∧ KDk K w a kvs ∧ ty σ H1 fun y H2 => tx σ H2 fun z H3 => ∃ k, y = .str k ∧ Q ((kvs.lookup k).getD z) H3
def tKIn (K : PySem.W.Frag) (w : World) (ty td : TE) : TE := fun σ H Q => ty σ H fun y H1 => td σ H1 fun x H2 => ∃ a kvs k, x = .ref a ∧ KDk K w a kvs ∧ y = .str k ∧ Q (.bl (kvs.lookup k).isSome) H2
def tKIx (K : PySem.W.Frag) (w : World) (td ty : TE) : TE := fun σ H Q => td σ H fun x H1 => ty σ H1 fun y H2 => ∃ a kvs k v, x = .ref a ∧ KDk K w a kvs ∧ y = .str k ∧ kvs.lookup k = some v ∧ Q v H2
section
variable {X : Cx} {o e f : Expr} {apos cpos : Pos} {td ty tx : TE}
theorem pe_kget2 (ho : PE X o td) (he : PE X e ty) (hf : PE X f tx) (m : M2 X o "get" apos e f cpos) : PE X (.Call (.Attribute o "get" apos) [e, f] [] cpos) (tKGet2 X.K X.w td ty tx) := by
  refine ⟨fun pins s σ H Q I h => ?_⟩
  refine wpAny_Call_method m.base m.few m.line PySem.F.plainAttrs_dict PySem.F.slot_dict_get PySem.F.type_dict_get (thn (ho.run pins s σ H _ I h) fun u s1 ⟨x, H1, I1, rx, a, kvs, ex, d, q1⟩ => ?_)
  subst ex
  obtain rfl : u = Value.ref a := rx
  obtain ⟨fm, hm, hr⟩ := d.map (P := X.prog) I1.kIn
  refine ⟨hm.typeIs, hm.noDict, ?_⟩
  rw [m.trees]
  refine Calls.callWith_builtin rfl (Calls.evalArgs_plain (Calls.spliced_cons (thn (he.run pins s1 σ H1 _ I1 q1) fun iv s2 ⟨y, H2, I2, ry, q2⟩ =>
    Calls.spliced_cons (thn (hf.run pins s2 σ H2 _ I2 q2) fun fv s3 ⟨z, H3, I3, rz, k, ey, q3⟩ => Calls.spliced_nil ?_))))
  subst ey
  obtain ⟨t, rfl⟩ := ry
  obtain ⟨fm3, hm3, hr3⟩ := d.map (P := X.prog) I3.kIn
  refine call_meetsIn PySem.F.slot_dict_get hm3.typeIs PySem.F.entry_dict_get (PySem.F.args_dict_get_3 _ _ _) (meets_dict_get_default (strKind X.prog X.w) a (strKind_is X.prog X.w k t) d.low fv) ⟨_, hm3, _, H3, I3.tok _, ?_, q3⟩
  exact (hr3 k).getD rz
theorem pc_kin (hi : PE X e ty) (ho : PE X o td) : PC X .In e o (tKIn X.K X.w ty td) := by
  refine ⟨fun pins s σ H Q I h => ?_⟩
  refine thn (hi.run pins s σ H _ I h) fun iv s1 ⟨y, H1, I1, ry, q1⟩ => thn (ho.run pins s1 σ H1 _ I1 q1) fun u s2 ⟨x, H2, I2, rx, a, kvs, k, ex, d, ey, q2⟩ => ?_
  subst ex
  subst ey
  obtain rfl : u = Value.ref a := rx
  obtain ⟨t, rfl⟩ := ry
  obtain ⟨fm, hm, hr⟩ := d.map (P := X.prog) I2.kIn
  refine wpAny_in_of (strKind_is X.prog X.w k t) d.low hm ?_
  rw [← (hr k).isSome_eq]
  exact ⟨.bl _, H2, I2.tok _, rfl, q2⟩
theorem pe_kix (ho : PE X o td) (hi : PE X e ty) (hs : PlainIx e) {pos : Pos} : PE X (.Subscript o e pos) (tKIx X.K X.w td ty) := by
  refine ⟨fun pins s σ H Q I h => ?_⟩
  refine Subscript_ (binT ho hi I (R := fun x y H2 => ∃ a kvs k v, x = .ref a ∧ KDk X.K X.w a kvs ∧ y = .str k ∧ kvs.lookup k = some v ∧ Q v H2) h fun v u s2 x y H2 I2 rx ry q => ?_)
  obtain ⟨a, kvs, k, v0, ex, d, ey, l, q⟩ := q
  subst ex
  subst ey
  obtain rfl : v = Value.ref a := rx
  obtain ⟨t, rfl⟩ := ry
  obtain ⟨fm, hm, hr⟩ := d.map (P := X.prog) I2.kIn
  obtain ⟨u0, hu, ru⟩ := RelO.some_of (v := v0) (o := fm k) (by rw [← l]; exact hr k)
  exact tail_any hm.typeIs slot_dict_getitem.lookup (wpAny_getItem_of (strKind_is X.prog X.w k t) hm hu ⟨v0, H2, I2.tok _, ru, q⟩) (hs _ _)
end
/-- the entries of a written dict, one by one -/
theorem relO_of {kvs : List (Str × V)} {es : List DictEntry} (h : Paired (fun (q : Str × V) (e : DictEntry) => (∃ t, e.key = .str q.1 t) ∧ RelV q.2 e.val) kvs es) (x : Str) : RelO (kvs.lookup x) ((es.find? fun e => Value.isStrOf x e.key).map (·.val)) := by
  induction h with
  | nil => exact trivial
  | @cons q e qs es h t ih =>
    obtain ⟨⟨tk, hk⟩, hv⟩ := h
    rw [List.find?_cons, List.lookup_cons]
    by_cases c : x = q.1
    · have c1 : (x == q.1) = true := beq_iff_eq.mpr c
      have c2 : Value.isStrOf x e.key = true := by rw [hk, c]; simp [Value.isStrOf]
      rw [c1, c2]
      exact hv
    · have c1 : (x == q.1) = false := beq_eq_false_iff_ne.mpr c
      have c2 : Value.isStrOf x e.key = false := by
        rw [hk]
        simp only [Value.isStrOf]
        first | exact decide_eq_false (fun z => c z.symm) | exact decide_eq_false c | (simp; exact fun z => c z.symm)
      rw [c1, c2]
      exact ih
end Aw
namespace Aw
open PySem PySem.Spec PyProof.Rows L2
section
variable {σ : L2.St} {H : Hp} {D : Ends} {g : TG} {tb : TS}
theorem f_str {z : Str} (Pv : Nat → L2.St → Hp → Prop) (h0 : Pv 0 σ H)
    (hs : ∀ i c σ H, z.cps.toList[i]? = some c → Pv i σ H → g (.str ⟨#[c]⟩) σ H fun σ2 H2 => tb { D with nx := Pv (i + 1), ct := Pv (i + 1), bk := D.nx } σ2 H2) (hd : ∀ σ H, Pv z.length σ H → D.nx σ H) :
    ∃ z', V.str z = .str z' ∧ ∃ W : Nat → Nat → L2.St → Hp → Prop, (∃ m, W 0 m σ H) ∧ ∀ i m σ H, W i m σ H →
      ((Its z').stop i H ∧ D.nx σ H) ∨ ((Its z').go i H ∧ ∃ N : L2.St → Hp → Prop, (∀ σ' H', N σ' H' → ∃ m', m' < m ∧ W (i + 1) m' σ' H') ∧ ∀ x H', (Its z').yld i H x H' → g x σ H' fun σ2 H2 => tb { D with nx := N, ct := N, bk := D.nx } σ2 H2) := by
  refine ⟨z, rfl, fun i m σ H => m = z.length - i ∧ i ≤ z.length ∧ Pv i σ H, ⟨z.length, by simp, Nat.zero_le _, h0⟩, ?_⟩
  rintro i m σ H ⟨rfl, hi, p⟩
  by_cases hlt : i < z.length
  · refine .inr ⟨hlt, Pv (i + 1), fun σ' H' p' => ⟨z.length - (i + 1), by omega, rfl, hlt, p'⟩, fun x H' y => ?_⟩
    obtain ⟨e, c, hc, rfl⟩ := y
    subst e
    exact hs i c σ _ (by rw [Array.getElem?_toList]; exact hc) p
  · have e : i = z.length := by omega
    subst e
    exact .inl ⟨Nat.le_refl _, hd σ H p⟩
end
/-! ### rules, in plain Lean -/
def isBox : List Nat → Bool
  | [c] => decide (97 ≤ c) && decide (c ≤ 104)
  | _ => false
def dgC (c : Nat) : Bool := decide (48 ≤ c) && decide (c ≤ 57)
def numD (l : List Nat) (many : Nat) : Option Nat := if l = [] ∨ l.head? = some 48 then none else if l.all dgC = true then (if PySem.NumText.digitsVal l > many then none else some (PySem.NumText.digitsVal l)) else none
def forms : List (Str × Str) := [("self", "b"), ("copy", "bb"), ("row", "b"), ("put", "bb"), ("join", "bb"), ("first", "bb"), ("rest", "bb"), ("size", "bb"), ("cut", "bbb"), ("glue", "bbb"), ("ask", "bb"), ("has", "bb"), ("names", "bb"), ("go", "n"), ("like", "bbn"), ("rowed", "bn"), ("none", "bn"), ("say", "b"), ("fault", "")]
abbrev Row := Str × List PyData
def Row.py (r : Row) : PyData := .tuple [.str r.1, .tuple r.2]
def textRow (l : List Nat) : Option Row := if isBox ((l.drop 5).take 1) = true ∧ (l.drop 6).take 1 = [32] then some ("text", [.str (S ((l.drop 5).take 1)), .str (S (l.drop 7))]) else none
def partD (f : Nat) (p : Str) (many : Nat) : Option PyData := if f = 98 then (if isBox p.cps.toList = true then some (.str p) else none) else (numD p.cps.toList many).map fun n => .int n
def partsD : List Nat → List Str → Nat → Option (List PyData)
  | f :: fs, p :: ps, m => match partD f p m, partsD fs ps m with
    | some d, some r => some (d :: r)
    | _, _ => none
  | _, _, _ => some []
def lineRow (z : Str) (many : Nat) : Option Row :=
  if z.cps.toList.take 5 = [116, 101, 120, 116, 32] then textRow z.cps.toList else
  match Txt.split z " " with
  | [] => none
  | w :: ps => match forms.lookup w with
    | none => none
    | some fm => if ps.length = fm.length then (partsD fm.cps.toList ps many).map fun r => (w, r) else none
end Aw
namespace Aw
open PySem PySem.Spec PyProof.Rows L2
/-! ### a text in its parts -/
theorem parts_of (c : Nat) : ∀ l : List Nat, ∃ ps : List (List Nat), ps ≠ [] ∧ (∀ p ∈ ps, c ∉ p) ∧ l = inter [c] ps ∧ ps.length ≤ l.length + 1 ∧ ∀ p ∈ ps, p.length ≤ l.length
  | [] => ⟨[[]], by simp, by simp, rfl, by simp, by simp⟩
  | x :: l => by
    obtain ⟨ps, h1, h2, h3, h4, h5⟩ := parts_of c l
    cases ps with
    | nil => exact absurd rfl h1
    | cons p r =>
      by_cases e : x = c
      · refine ⟨[] :: p :: r, by simp, ?_, ?_, ?_, ?_⟩
        · intro q hq
          rcases List.mem_cons.mp hq with rfl | hq
          · simp
          · exact h2 q hq
        · rw [h3, e]; rfl
        · simp only [List.length_cons] at h4 ⊢; omega
        · intro q hq
          rcases List.mem_cons.mp hq with rfl | hq
          · exact Nat.zero_le _
          · have := h5 q hq; rw [List.length_cons]; omega
      · refine ⟨(x :: p) :: r, by simp, ?_, ?_, ?_, ?_⟩
        · intro q hq
          rcases List.mem_cons.mp hq with rfl | hq
          · intro hc
            rcases List.mem_cons.mp hc with hc | hc
            · exact e hc.symm
            · exact h2 p (List.mem_cons_self ..) hc
          · exact h2 q (List.mem_cons_of_mem _ hq)
        · rw [h3]
          cases r with
          | nil => rfl
          | cons y r => rfl
        · simp only [List.length_cons] at h4 ⊢; omega
        · intro q hq
          rcases List.mem_cons.mp hq with rfl | hq
          · have := h5 p (List.mem_cons_self ..); rw [List.length_cons, List.length_cons]; omega
          · have := h5 q (List.mem_cons_of_mem _ hq); rw [List.length_cons]; omega
theorem split_parts (c : Nat) (z : Str) : ∃ ps : List (List Nat), ps ≠ [] ∧ Txt.split z ⟨#[c]⟩ = ps.map S ∧ ps.length ≤ z.length + 1 ∧ ∀ p ∈ ps, p.length ≤ z.length := by
  obtain ⟨ps, h1, h2, h3, h4, h5⟩ := parts_of c z.cps.toList
  refine ⟨ps, h1, ?_, by rw [← len_list]; exact h4, fun p hp => by rw [← len_list]; exact h5 p hp⟩
  rw [← split_S h2 h1, ← h3, S_of]
/-! ### the parts of a line -/
def optS (b : Bool) (z : Str) : V := if b = true then .str z else .non
def optN : Option Nat → V
  | some n => .int n
  | none => .non
def partV (m : Nat) (f : Nat) (p : Str) : V := if f = 98 then optS (isBox p.cps.toList) p else optN (numD p.cps.toList m)
theorem partV_flat {m f : Nat} {p : Str} : flatV (partV m f p) = true := by
  unfold partV optS
  split
  · split <;> rfl
  · cases numD p.cps.toList m <;> rfl
theorem inNon : ∀ xs : List V, xs.all flatV = true → (inV V.non xs = decide (V.non ∈ xs))
  | [], _ => rfl
  | x :: xs, h => by
    rw [List.all_cons, Bool.and_eq_true] at h
    have ih := inNon xs h.2
    unfold inV at ih ⊢
    rw [List.any_cons, ih]
    have e : eqV x V.non = decide (V.non = x) := by
      cases x <;> simp_all [flatV, eqV]
    rw [e]
    by_cases c : V.non = x
    · simp [c]
    · simp [c]
theorem partV_some {K : PySem.W.Frag} {H : Hp} {m f : Nat} {p : Str} {d : PyData} (h : partD f p m = some d) : Dt K H d (partV m f p) ∧ partV m f p ≠ .non := by
  unfold partD at h
  unfold partV
  by_cases e : f = 98
  · rw [if_pos e] at h ⊢
    by_cases b : isBox p.cps.toList = true
    · rw [if_pos b] at h
      cases h
      unfold optS
      rw [if_pos b]
      exact ⟨dt_str, fun z => by cases z⟩
    · rw [if_neg b] at h
      cases h
  · rw [if_neg e] at h ⊢
    cases n : numD p.cps.toList m with
    | none => rw [n] at h; cases h
    | some k =>
      rw [n] at h
      cases h
      exact ⟨dt_int, fun z => by cases z⟩
theorem partV_none {m f : Nat} {p : Str} (h : partD f p m = none) : partV m f p = .non := by
  unfold partD at h
  unfold partV
  by_cases e : f = 98
  · rw [if_pos e] at h ⊢
    by_cases b : isBox p.cps.toList = true
    · rw [if_pos b] at h
      cases h
    · unfold optS
      rw [if_neg b]
  · rw [if_neg e] at h ⊢
    cases n : numD p.cps.toList m with
    | none => rfl
    | some k => rw [n] at h; cases h
theorem partsV {K : PySem.W.Frag} {H : Hp} {m : Nat} : ∀ {fs : List Nat} {ps : List Str}, fs.length = ps.length →
    (∃ ds, partsD fs ps m = some ds ∧ Dts K H ds (List.zipWith (partV m) fs ps) ∧ V.non ∉ List.zipWith (partV m) fs ps) ∨ (partsD fs ps m = none ∧ V.non ∈ List.zipWith (partV m) fs ps)
  | [], [], _ => .inl ⟨[], rfl, dts_nil, by simp⟩
  | f :: fs, p :: ps, h => by
    have ih := partsV (K := K) (H := H) (m := m) (fs := fs) (ps := ps) (by simpa using h)
    unfold partsD
    rw [List.zipWith_cons_cons]
    cases hd : partD f p m with
    | none =>
      refine .inr ⟨by rfl, ?_⟩
      rw [partV_none hd]
      exact List.mem_cons_self ..
    | some d =>
      obtain ⟨h1, h2⟩ := partV_some (K := K) (H := H) hd
      rcases ih with ⟨ds, e, k1, k2⟩ | ⟨e, k⟩
      · refine .inl ⟨d :: ds, by rw [e], dts_cons h1 k1, ?_⟩
        intro hm
        rcases List.mem_cons.mp hm with hm | hm
        · exact h2 hm.symm
        · exact k2 hm
      · exact .inr ⟨by rw [e], List.mem_cons_of_mem _ k⟩
  | [], _ :: _, h => by simp at h
  | _ :: _, [], h => by simp at h
theorem forms_ok : ∀ q ∈ forms, q.2.length ≤ 3 := by decide +kernel
def kforms : List (Str × V) := forms.map fun q => (q.1, V.str q.2)
theorem lookup_map {α β : Type} (f : α → β) (x : Str) : ∀ l : List (Str × α), (l.map fun q => (q.1, f q.2)).lookup x = (l.lookup x).map f
  | [] => rfl
  | q :: r => by
    rw [List.map_cons, List.lookup_cons, List.lookup_cons, lookup_map f x r]
    cases x == q.1 <;> rfl
theorem lookup_mem {α : Type} {x : Str} {y : α} : ∀ {l : List (Str × α)}, l.lookup x = some y → (x, y) ∈ l
  | q :: r, h => by
    rw [List.lookup_cons] at h
    by_cases c : x = q.1
    · rw [show (x == q.1) = true from beq_iff_eq.mpr c] at h
      have : q.2 = y := Option.some.inj h
      rw [c, ← this]
      exact List.mem_cons_self ..
    · rw [show (x == q.1) = false from beq_eq_false_iff_ne.mpr c] at h
      exact List.mem_cons_of_mem _ (lookup_mem h)
end Aw

namespace Aw
open PySem PySem.Spec PyProof.Rows L2
section
variable {D : Hd} {w : World} {K : PySem.W.Frag} {h : Heap} {mg : Str → Option Value}
theorem SaysH.fst (c : SaysH D w K) : ((D.fa.all fun f => f.ok K) && ((D.fn.all fun d => dB K d) && D.ex K)) = true := congrArg (fun z : AlH => z.1) c
theorem SaysH.fact (c : SaysH D w K) (i : Nat) {f : He.Fa} (h : D.fa[i]? = some f := by rfl) : f.ok K = true := List.all_eq_true.mp (He.ba c.fst).1 f (List.mem_of_getElem? h)
theorem SaysH.more (c : SaysH D w K) : D.ex K = true := (He.ba (He.ba c.fst).2).2
theorem SaysH.def_ (c : SaysH D w K) (i : Nat) {d : He.FnD} (h : D.fn[i]? = some d := by rfl) : He.fnObs K d.at_ = d.val ∧ dB K d = true := by
  have c2 := List.all_eq_true.mp (He.ba (He.ba c.fst).2).1 d (List.mem_of_getElem? h)
  have e : D.fn.map (fun d => He.fnObs K d.at_) = D.fn.map He.FnD.val := congrArg (fun z : AlH => z.2.1) c
  have e2 : (D.fn.map fun d => He.fnObs K d.at_)[i]? = (D.fn.map He.FnD.val)[i]? := by rw [e]
  rw [List.getElem?_map, List.getElem?_map, h] at e2
  exact ⟨Option.some.inj e2, c2⟩
theorem SaysH.tab (c : SaysH D w K) (i : Nat) {t : He.Tab} (h : D.ts[i]? = some t := by rfl) : He.dicW K (t.1 K) = some (He.keysIn w.params t.2) := by
  have e : D.ts.map (fun t => He.dicW K (t.1 K)) = D.ts.map fun t => some (He.keysIn w.params t.2) := congrArg (fun z : AlH => z.2.2) c
  have e2 : (D.ts.map fun t => He.dicW K (t.1 K))[i]? = (D.ts.map fun t => some (He.keysIn w.params t.2))[i]? := by rw [e]
  rw [List.getElem?_map, List.getElem?_map, h] at e2
  exact Option.some.inj e2
/-- a def of the module's top -/
theorem SaysH.fun_ (c : SaysH D w K) (X : K.In h) (G : h.Ns mainGlobals mg) (i : Nat) {x qual : Str} {st : Stmt} (hi : D.fn[i]? = some ⟨(x, none), x, qual, defArgs st, defBody st, defScope st⟩ := by rfl) :
    ∃ fd, Fun K x qual st (He.ga K x) fd ∧ mg x = some (.ref (He.ga K x)) := by
  obtain ⟨e, b⟩ := c.def_ i hi
  obtain ⟨b1, b2⟩ := He.ba b
  obtain ⟨b3, b4⟩ := He.ba b2
  obtain ⟨oc, od, osl, kV, doc, pm, an, cdv, ct, lk, hc⟩ := He.fn_ok e b4
  exact ⟨_, fun_mk (st := st) lk hc b3, PySem.W.mg_of X G (He.eqO_ok b1)⟩
/-- a method -/
theorem SaysH.meth_ (c : SaysH D w K) (i : Nat) {x m qual : Str} {st : Stmt} (hi : D.fn[i]? = some ⟨(x, some m), m, qual, defArgs st, defBody st, defScope st⟩ := by rfl) :
    ∃ f fd, Fun K m qual st f fd ∧ Meth K (He.ga K x) m f := by
  obtain ⟨e, b⟩ := c.def_ i hi
  obtain ⟨b1, b2⟩ := He.ba b
  obtain ⟨b3, b4⟩ := He.ba b2
  obtain ⟨b5, b6⟩ := He.ba (show (He.eqO (PySem.W.findIn K (.ref (He.ga K x)) m) (some (some (.ref (He.ma K (He.ga K x) m)))) && PySem.W.isFn K (.ref (He.ma K (He.ga K x) m))) = true from b1)
  obtain ⟨oc, od, osl, kV, doc, pm, an, cdv, ct, lk, hc⟩ := He.fn_ok e b4
  exact ⟨He.ma K (He.ga K x) m, _, fun_mk (st := st) lk hc b3, ⟨He.eqO_ok b5, b6, b3⟩⟩
theorem SaysH.df (c : SaysH D w K) (X : K.In h) (G : h.Ns mainGlobals mg) (i : Nat) {x qual : Str} {st : Stmt} {ps : List Str} (hi : D.fn[i]? = some ⟨(x, none), x, qual, defArgs st, defBody st, defScope st⟩)
    (hb : ∀ (kV doc pm : Value) (an : Option Addr) (cdv ct : Value) (us : List Value), us.length = ps.length → bindArgs (PySem.W.fnOf x qual (defArgs st) (defBody st) (defScope st) .none kV doc pm an cdv ct) ⟨us, []⟩ = pure (ps.zip us)) : Df K mg x qual st ps := by
  obtain ⟨fd, F, hm⟩ := c.fun_ X G i hi
  exact ⟨_, fd, F, hm, F.binds hb⟩
theorem SaysH.dfm (c : SaysH D w K) (i : Nat) {x m qual : Str} {st : Stmt} {ps : List Str} (hi : D.fn[i]? = some ⟨(x, some m), m, qual, defArgs st, defBody st, defScope st⟩)
    (hb : ∀ (kV doc pm : Value) (an : Option Addr) (cdv ct : Value) (us : List Value), us.length = ps.length → bindArgs (PySem.W.fnOf m qual (defArgs st) (defBody st) (defScope st) .none kV doc pm an cdv ct) ⟨us, []⟩ = pure (ps.zip us)) : DfM K (He.ga K x) m qual st ps := by
  obtain ⟨f, fd, F, hm⟩ := c.meth_ i hi
  exact ⟨f, fd, F, hm, F.binds hb⟩
/-- a maker: facts glo, mkr at j, k -/
theorem SaysH.dfi (c : SaysH D w K) (X : K.In h) (G : h.Ns mainGlobals mg) (i j : Nat) {x qual : Str} {st : Stmt} {ps : List Str} (hi : D.fn[i]? = some ⟨(x, some "__init__"), "__init__", qual, defArgs st, defBody st, defScope st⟩)
    (hg : D.fa[j]? = some (.glo x)) (hk : D.fa[j + 1]? = some (.mkr x))
    (hb : ∀ (kV doc pm : Value) (an : Option Addr) (cdv ct : Value) (us : List Value), us.length = ps.length → bindArgs (PySem.W.fnOf "__init__" qual (defArgs st) (defBody st) (defScope st) .none kV doc pm an cdv ct) ⟨us, []⟩ = pure (ps.zip us)) : DfI K mg (He.ga K x) x qual st ps := by
  obtain ⟨e, b⟩ := c.def_ i hi
  obtain ⟨b1, b2⟩ := He.ba b
  obtain ⟨b3, b4⟩ := He.ba b2
  obtain ⟨oc, od, osl, kV, doc, pm, an, cdv, ct, lk, hc⟩ := He.fn_ok e b4
  have F := fun_mk (st := st) lk hc b3
  exact ⟨⟨_, _, F, He.mkr_ok (c.fact (j + 1) hk), F.binds hb⟩, He.glo_ok X G (c.fact j hg)⟩
theorem SaysH.int_ (c : SaysH D w K) (X : K.In h) (G : h.Ns mainGlobals mg) (i : Nat) {x : Str} {n : Int} (hi : D.fa[i]? = some (.int x n) := by rfl) : GV mg x (.int n) := by
  obtain ⟨t, e⟩ := He.int_ok X G (c.fact i hi)
  exact ⟨_, e, t, rfl⟩
theorem SaysH.str_ (c : SaysH D w K) (X : K.In h) (G : h.Ns mainGlobals mg) (i : Nat) {x z : Str} (hi : D.fa[i]? = some (.str x z) := by rfl) : GV mg x (.str z) := by
  obtain ⟨t, e⟩ := He.str_ok X G (c.fact i hi)
  exact ⟨_, e, t, rfl⟩
theorem SaysH.glo_ (c : SaysH D w K) (X : K.In h) (G : h.Ns mainGlobals mg) (i : Nat) {x : Str} (hi : D.fa[i]? = some (.glo x) := by rfl) : GV mg x (.ref (He.ga K x)) := ⟨_, He.glo_ok X G (c.fact i hi), rfl⟩
end
theorem isStrOf_at {x y : Str} {v : Value} (h : Value.isStrOf x v = true) : Value.isStrOf y v = (y == x) := by
  cases v with
  | str z t =>
    have e : z = x := by simpa [Value.isStrOf] using h
    subst e
    show (z == y) = (y == z)
    by_cases h : z = y
    · rw [h]
    · rw [beq_eq_false_iff_ne.mpr h, beq_eq_false_iff_ne.mpr fun q => h q.symm]
  | _ => cases h
theorem entB_ok : ∀ {kvs : List (Str × V)} {es : List DictEntry}, entB kvs es = true → ∀ x : Str, RelO (kvs.lookup x) ((es.find? fun e => Value.isStrOf x e.key).map (·.val))
  | [], [], _, _ => trivial
  | [], _ :: _, h, _ => by cases h
  | _ :: _, [], h, _ => by cases h
  | q :: r, e :: s, h, x => by
    obtain ⟨h1, h2⟩ := He.ba h
    obtain ⟨h3, h4⟩ := He.ba h2
    have ih := entB_ok h4 x
    rw [List.find?_cons, isStrOf_at h1]
    show RelO (match x == q.1 with | true => some q.2 | false => r.lookup x) _
    cases x == q.1 with
    | true => exact He.relB_ok h3
    | false => exact ih
theorem kdk_of {K : PySem.W.Frag} {w : World} {a : Addr} {kvs : List (Str × V)} {ks : List Str} (h : He.dicW K a = some (He.keysIn w.params ks)) (b : entB kvs (esOf K a) = true) : KDk K w a kvs := by
  obtain ⟨es, n, q, hk, hlow⟩ := He.dicW_ok h
  refine ⟨⟨es, n, q, hk, fun x => ?_⟩, hlow⟩
  unfold esOf at b
  rw [q] at b
  have := entB_ok b x
  rw [findBy, ← Array.find?_toList]
  exact this
end Aw


namespace Aw
open PySem PySem.Spec PyProof.Rows L2
abbrev s_is_plain : Stmt := topS 16
theorem sc_is_plain : FnScope ["value", "sign"] ["value"] (defScope s_is_plain) := ⟨rfl, rfl, rfl, by decide +kernel, rfl, by decide +kernel, by decide +kernel⟩
abbrev s_is_name : Stmt := topS 19
theorem sc_is_name : FnScope ["value", "sign"] ["value"] (defScope s_is_name) := ⟨rfl, rfl, rfl, by decide +kernel, rfl, by decide +kernel, by decide +kernel⟩
local macro_rules | `(tactic| walk_at "rd1") => `(tactic| first
  | ((with_reducible apply i_var); exact rfl)
  | with_reducible refine i_c ?_
  | with_reducible refine i_op ?_
  | with_reducible refine i_un ?_
  | with_reducible refine i_test ?_
  | with_reducible refine i_tB ?_
  | with_reducible refine i_bl ?_
  | with_reducible refine i_and ?_
  | with_reducible refine i_or ?_
  | with_reducible refine i_not ?_
  | with_reducible refine i_andV ?_
  | with_reducible refine i_orV ?_
  | with_reducible refine i_notV ?_
  | with_reducible refine i_if ?_
  | with_reducible refine i_chain ?_
  | with_reducible refine i_nil ?_
  | with_reducible refine i_cons ?_
  | with_reducible refine i_tup ?_
  | with_reducible refine i_lst ?_
  | with_reducible refine i_cb ?_
  | with_reducible refine i_call ?_
  | with_reducible refine i_bm ?_
  | with_reducible refine i_m1 ?_
  | with_reducible refine i_m0 ?_
  | with_reducible refine i_exstr ?_
  | with_reducible refine i_sl ?_
  | with_reducible refine i_nopart ?_
  | with_reducible refine i_part ?_
  | with_reducible refine i_int ?_
  | with_reducible refine i_seq ?_
  | with_reducible refine i_next ?_
  | with_reducible refine i_asg ?_
  | with_reducible refine i_gname ?_
  | with_reducible refine i_ret ?_
  | with_reducible refine i_retN ?_
  | with_reducible refine i_drop ?_
  | with_reducible refine i_ifS ?_
  | with_reducible refine i_break ?_
  | with_reducible refine i_cont ?_
  | ((with_reducible apply i_aug); exact rfl)
  | with_reducible refine i_add_i ?_
  | with_reducible refine i_sub ?_
  | with_reducible refine i_neg ?_
  | with_reducible refine i_ipadd_i ?_
  | with_reducible refine i_ip ?_
  | with_reducible refine i_lt ?_
  | with_reducible refine i_le ?_
  | with_reducible refine i_gt ?_
  | with_reducible refine i_ge ?_
  | with_reducible refine i_lt_s ?_
  | with_reducible refine i_le_s ?_
  | with_reducible refine i_gt_s ?_
  | with_reducible refine i_ge_s ?_
  | with_reducible refine i_isN ?_
  | with_reducible refine i_notN ?_
  | with_reducible refine i_in_c ?_
  | with_reducible refine i_nin_c ?_
  | with_reducible refine i_gsub ?_
  | with_reducible refine i_gcons ?_
  | with_reducible refine i_gnil ?_
  | with_reducible refine i_iList ?_
  | with_reducible refine i_iTup ?_
  | with_reducible refine i_iStr ?_
  | with_reducible refine i_iRng1 ?_
  | with_reducible refine i_lc ?_
  | with_reducible refine i_for ?_
  | with_reducible refine i_yes ?_
  | with_reducible refine i_repl ?_
  | with_reducible refine i_meth ?_
  | with_reducible refine i_fld ?_
  | with_reducible refine i_sfld ?_
  | with_reducible refine i_din ?_
  | with_reducible refine i_dnin ?_
  | with_reducible refine i_dget ?_
  | with_reducible refine i_dput ?_
  | with_reducible refine i_joined ?_
  | with_reducible refine i_callS ?_
  | with_reducible refine i_xf ?_
  | with_reducible refine i_revL ?_
  | with_reducible refine i_items ?_
  | with_reducible refine i_stepL ?_
  | with_reducible refine i_make ?_
  | with_reducible refine i_fmt ?_
  | with_reducible refine i_jcons ?_
  | with_reducible refine i_jnil ?_
  | with_reducible refine i_iEnum ?_
  | with_reducible refine iteT ?_
  | with_reducible refine iteF ?_
  | with_reducible refine iteNT ?_
  | with_reducible refine iteNF ?_
  | ((with_reducible refine i_len_s ?_ ?_); (first | assumption | exact szl (by assumption)))
  | ((with_reducible refine i_sl_s ?_ ?_); (first | assumption | exact szl (by assumption)))
  | with_reducible refine i_int_b ?_
  | with_reducible refine i_abs ?_
  | with_reducible refine i_min2 ?_
  | with_reducible refine i_eq rfl ?_
  | with_reducible refine i_ne rfl ?_)
local macro_rules | `(tactic| walk_at "rd") => `(tactic| repeat walk_at "rd1")

section
variable {P : Program} {w : World} {K : PySem.W.Frag} {mg : Str → Option Value} {base : Heap}
def spIsPlain : Sp := fun vs H Q _ => ∃ z : Str, vs = [.str z] ∧ z.length ≤ 100000 ∧ ∀ H', Same H H' → Q (.bl (z.cps.toList.all plainC)) H'
theorem ok_is_plain (D : Df K mg "is_plain" "is_plain" s_is_plain ["value"]) (B : NoB mg) : Cal P w K mg base CX0 "is_plain" ["value"] 1 spIsPlain := by
  refine D.cal fun f fd F => ?_
  refine F.ok sc_is_plain (fun vs H Q E h => ?_) (fun cdv A outer s H vs Q E hr h => ?_)
  · obtain ⟨z, rfl, _⟩ := h
    rfl
  · obtain ⟨z, rfl, hz, q⟩ := h
    refine ⟨_, (pss_one (ps_ret (pe_and (pe_callB (call_isiU K) (by rfl) B.m_isinstance (by decide +kernel) (pa_cons (pv 0) (pa_cons (pe_ty (T := "str") (by rfl) B.m_str (by decide +kernel)) pa_nil))) (pe_one (pe_callB (call_allU K rfl) (by rfl) B.m_all (by decide +kernel) (pa_cons (pe_lc (own := [("sign", 1)]) (by rfl) sc_is_plain.nd (pi_str (pv 0)) (blkOk_by (own := [("sign", 1)]) (N := ["value", "sign"]) (sc := defScope s_is_plain) (by decide +kernel)) (fun _ _ _ _ _ => pg_name (i := 1) sc_is_plain.nd rfl (Or.inl rfl)) (fun _ _ _ _ _ => pts_nil) (fun _ _ _ _ _ => (pe_or (pe_chain op_leU op_leU pe_str (pv 1) pe_str) (pe_one (pe_chain op_leU op_leU pe_str (pv 1) pe_str))))) pa_nil)))))), ?_⟩
    walk_at "rd"
    refine i_isi (b := true) (.base (.str z)) (by decide +kernel) ?_
    walk_at "rd"
    refine c_str (szlt hz) (fun D i acc H1 => Same H H1 ∧ acc = ((z.cps.toList.take i).map plainC).map V.bl) ?_ ?_ ?_
    · exact fun D H1 _ s _ => ⟨s, rfl⟩
    · intro D i c acc H1 hD hc hl hi ha hp
      obtain ⟨sm, rfl⟩ := hp
      have fin : ∀ b : Bool, b = plainC c → CK D (CN (fun D i acc H1 => Same H H1 ∧ acc = ((z.cps.toList.take i).map plainC).map V.bl) D (i + 1)) (.bl b) H1 := fun b hb =>
        i_ck ha hl hi fun H5 bt e5 => ⟨Same.but sm hD bt, by rw [take_snoc hc, hb, List.map_append, List.map_append]; rfl⟩
      walk_at "rd"
      refine ⟨rfl, ?_⟩
      walk_at "rd"
      rw [cmpc1 (d := 32) (by decide)]
      refine ite2 (fun h1 => ?_) (fun h1 => ?_)
      all_goals walk_at "rd"
      · rw [cmpc2 (d := 36) (by decide)]
        refine ite2 (fun h2 => ?_) (fun h2 => ?_)
        · refine fin _ ?_
          simp at h1 h2
          rw [Bool.eq_iff_iff]; simp [plainC]; omega
        · walk_at "rd"
          rw [cmpc1 (d := 38) (by decide)]
          refine ite2 (fun h3 => ?_) (fun h3 => ?_)
          all_goals walk_at "rd"
          · rw [cmpc2 (d := 126) (by decide)]
            refine fin _ ?_
            simp at h1 h2 h3
            rw [Bool.eq_iff_iff]; simp [plainC]; omega
          · refine fin _ ?_
            simp at h1 h2 h3
            rw [Bool.eq_iff_iff]; simp [plainC]; omega
      · rw [cmpc1 (d := 38) (by decide)]
        refine ite2 (fun h3 => ?_) (fun h3 => ?_)
        all_goals walk_at "rd"
        · rw [cmpc2 (d := 126) (by decide)]
          refine fin _ ?_
          simp at h1 h3
          omega
        · refine fin _ ?_
          simp at h1 h3
          rw [Bool.eq_iff_iff]; simp [plainC]; omega
    · intro D acc H1 hD hl ha hp
      obtain ⟨sm, rfl⟩ := hp
      walk_at "rd"
      refine i_all (.inl (.inl ha)) ?_
      rw [show List.take z.length z.cps.toList = z.cps.toList from List.take_of_length_le (Nat.le_of_eq Array.length_toList), List.all_map]
      exact q _ sm
/-! is_name -/
structure GNames (mg : Str → Option Value) : Prop where
  most : GV mg "MOST_NAME" (.int 24)
  lets : GV mg "LETTERS" (.str "abcdefghijklmnopqrstuvwxyz")
  sgns : GV mg "NAME_SIGNS" (.str "abcdefghijklmnopqrstuvwxyz0123456789./")
theorem letC_mem (c : Nat) : decide (c ∈ (Str.ofString "abcdefghijklmnopqrstuvwxyz").cps.toList) = letC c := by
  rw [show (Str.ofString "abcdefghijklmnopqrstuvwxyz").cps.toList = (List.range 26).map (97 + ·) by decide +kernel, Bool.eq_iff_iff]
  simp only [letC, decide_eq_true_eq, List.mem_map, List.mem_range, Bool.and_eq_true]
  constructor
  · rintro ⟨k, h, rfl⟩
    omega
  · rintro ⟨h1, h2⟩
    exact ⟨c - 97, by omega, by omega⟩
theorem nameC_mem (c : Nat) : decide (c ∈ (Str.ofString "abcdefghijklmnopqrstuvwxyz0123456789./").cps.toList) = nameC c := by
  rw [show (Str.ofString "abcdefghijklmnopqrstuvwxyz0123456789./").cps.toList = (List.range 26).map (97 + ·) ++ ((List.range 10).map (48 + ·) ++ [46, 47]) by decide +kernel, Bool.eq_iff_iff]
  simp only [nameC, letC, decide_eq_true_eq, List.mem_append, List.mem_map, List.mem_range, Bool.and_eq_true, Bool.or_eq_true, List.mem_cons, List.not_mem_nil, or_false]
  constructor
  · rintro (⟨k, h, rfl⟩ | ⟨k, h, rfl⟩ | rfl | rfl) <;> omega
  · rintro (⟨h1, h2⟩ | ⟨h1, h2⟩)
    · exact .inl ⟨c - 97, by omega, by omega⟩
    · by_cases h : 48 ≤ c
      · exact .inr (.inl ⟨c - 48, by omega, by omega⟩)
      · exact .inr (.inr (by omega))
def spIsName : Sp := fun vs H Q _ => ∃ z : Str, vs = [.str z] ∧ z.length ≤ 100000 ∧ ∀ H', Same H H' → Q (.bl (nameOk z)) H'
theorem fn_is_name {f : Addr} {fd : FuncData} (F : Fun K "is_name" "is_name" s_is_name f fd) (B : NoB mg) (G : GNames mg) : FnOk P w K mg base CX0 1 f fd ["value"] spIsName := by
  have g_MOST_NAME := G.most
  have g_LETTERS := G.lets
  have g_NAME_SIGNS := G.sgns
  refine F.ok sc_is_name (fun vs H Q E h => ?_) (fun cdv A outer s H vs Q E hr h => ?_)
  · obtain ⟨z, rfl, _⟩ := h
    rfl
  · obtain ⟨z, rfl, hz, q⟩ := h
    refine ⟨_, (pss_cons (ps_if (PW.pt (pw_or (pt_not (pt_val (pe_callB (call_isiU K) (by rfl) B.m_isinstance (by decide +kernel) (pa_cons (pv 0) (pa_cons (pe_ty (T := "str") (by rfl) B.m_str (by decide +kernel)) pa_nil))))) (pw_or (pt_not (pt_chain op_leU op_leU pe_int (pe_callB (call_lenU K) (by rfl) B.m_len (by decide +kernel) (pa_cons (pv 0) pa_nil)) (pe_gv (by rfl) g_MOST_NAME))) (pw_or1 (pt_cmpR (op_ninU K) (pe_ix (ix_U K) (pv 0) pe_int (fun _ _ => rfl)) (pe_gv (by rfl) g_LETTERS) (by with_unfolding_all rfl)))))) (pss_one (ps_ret pe_bl)) pss_nil)
      (pss_one (ps_ret (pe_callB (call_allU K rfl) (by rfl) B.m_all (by decide +kernel) (pa_cons (pe_lc (own := [("sign", 1)]) (by rfl) sc_is_name.nd (pi_str (pv 0)) (blkOk_by (own := [("sign", 1)]) (N := ["value", "sign"]) (sc := defScope s_is_name) (by decide +kernel)) (fun _ _ _ _ _ => pg_name (i := 1) sc_is_name.nd rfl (Or.inl rfl)) (fun _ _ _ _ _ => pts_nil) (fun _ _ _ _ _ => (pe_cmpR (op_inU K) (pv 1) (pe_gv (by rfl) g_NAME_SIGNS) (by with_unfolding_all rfl)))) pa_nil))))), ?_⟩
    walk_at "rd"
    refine i_isi (b := true) (.base (.str z)) (by decide +kernel) ?_
    walk_at "rd"
    refine ite2 (fun h1 => ?_) (fun h1 => ?_)
    all_goals walk_at "rd"
    · refine ite2 (fun h2 => ?_) (fun h2 => ?_)
      all_goals walk_at "rd"
      · have e : nameOk z = false := by simp at h1 h2; unfold nameOk; rw [decide_eq_false (by omega : ¬ z.length ≤ 24)]; simp
        rw [← e]
        exact q _ (Same.refl H)
      · have hl : 1 ≤ z.length ∧ z.length ≤ 24 := by simp at h1 h2; omega
        have h0 : 0 < z.cps.toList.length := by rw [Array.length_toList]; exact hl.1
        have e0 : z.cps.toList[0]? = some (z.cps.toList[0]'h0) := List.getElem?_eq_getElem h0
        have eh : z.cps.toList.head? = some (z.cps.toList[0]'h0) := by rw [List.head?_eq_getElem?]; exact e0
        generalize (z.cps.toList[0]'h0) = c at e0 eh
        refine i_ix_s (c := c) (szl hz) (atI_nat (j := 0) e0) ?_
        walk_at "rd"
        rw [letC_mem]
        refine ite2 (fun h3 => ?_) (fun h3 => ?_)
        all_goals walk_at "rd"
        · have e : nameOk z = false := by unfold nameOk; rw [eh]; simp at h3; simp [h3]
          rw [← e]
          exact q _ (Same.refl H)
        · have e : nameOk z = z.cps.toList.all nameC := by unfold nameOk; rw [eh, decide_eq_true hl.1, decide_eq_true hl.2]; simp at h3; simp [h3]
          refine c_str (szlt hz) (fun D i acc H1 => Same H H1 ∧ acc = ((z.cps.toList.take i).map nameC).map V.bl) ?_ ?_ ?_
          · exact fun D H1 _ s _ => ⟨s, rfl⟩
          · intro D i c acc H1 hD hc hl hi ha hp
            obtain ⟨sm, rfl⟩ := hp
            walk_at "rd"
            refine ⟨rfl, ?_⟩
            walk_at "rd"
            refine i_ck ha hl hi fun H5 bt e5 => ⟨Same.but sm hD bt, ?_⟩
            rw [take_snoc hc, nameC_mem, List.map_append, List.map_append]; rfl
          · intro D acc H1 hD hl ha hp
            obtain ⟨sm, rfl⟩ := hp
            walk_at "rd"
            refine i_all (.inl (.inl ha)) ?_
            rw [show List.take z.length z.cps.toList = z.cps.toList from List.take_of_length_le (Nat.le_of_eq Array.length_toList), List.all_map]
            show Q _ _
            rw [e] at q
            exact q _ sm
    · have e : nameOk z = false := by simp at h1; unfold nameOk; rw [decide_eq_false (by omega : ¬ 1 ≤ z.length)]; simp
      rw [← e]
      exact q _ (Same.refl H)
theorem ok_is_name (D : Df K mg "is_name" "is_name" s_is_name ["value"]) (B : NoB mg) (G : GNames mg) : Cal P w K mg base CX0 "is_name" ["value"] 1 spIsName := D.cal fun _ _ F => fn_is_name F B G
end
end Aw

namespace Aw
open PySem PySem.Spec PyProof.Rows L2

local macro_rules | `(tactic| walk_at "rd1") => `(tactic| first
  | ((with_reducible apply i_var); exact rfl)
  | with_reducible refine i_c ?_
  | with_reducible refine i_op ?_
  | with_reducible refine i_un ?_
  | with_reducible refine i_test ?_
  | with_reducible refine i_tB ?_
  | with_reducible refine i_bl ?_
  | with_reducible refine i_and ?_
  | with_reducible refine i_or ?_
  | with_reducible refine i_not ?_
  | with_reducible refine i_andV ?_
  | with_reducible refine i_orV ?_
  | with_reducible refine i_notV ?_
  | with_reducible refine i_if ?_
  | with_reducible refine i_chain ?_
  | with_reducible refine i_nil ?_
  | with_reducible refine i_cons ?_
  | with_reducible refine i_tup ?_
  | with_reducible refine i_lst ?_
  | with_reducible refine i_cb ?_
  | with_reducible refine i_call ?_
  | with_reducible refine i_bm ?_
  | with_reducible refine i_m1 ?_
  | with_reducible refine i_m0 ?_
  | with_reducible refine i_exstr ?_
  | with_reducible refine i_sl ?_
  | with_reducible refine i_nopart ?_
  | with_reducible refine i_part ?_
  | with_reducible refine i_int ?_
  | with_reducible refine i_seq ?_
  | with_reducible refine i_next ?_
  | with_reducible refine i_asg ?_
  | with_reducible refine i_gname ?_
  | with_reducible refine i_ret ?_
  | with_reducible refine i_retN ?_
  | with_reducible refine i_drop ?_
  | with_reducible refine i_ifS ?_
  | with_reducible refine i_break ?_
  | with_reducible refine i_cont ?_
  | ((with_reducible apply i_aug); exact rfl)
  | with_reducible refine i_add_i ?_
  | with_reducible refine i_sub ?_
  | with_reducible refine i_neg ?_
  | with_reducible refine i_ipadd_i ?_
  | with_reducible refine i_ip ?_
  | with_reducible refine i_lt ?_
  | with_reducible refine i_le ?_
  | with_reducible refine i_gt ?_
  | with_reducible refine i_ge ?_
  | with_reducible refine i_lt_s ?_
  | with_reducible refine i_le_s ?_
  | with_reducible refine i_gt_s ?_
  | with_reducible refine i_ge_s ?_
  | with_reducible refine i_isN ?_
  | with_reducible refine i_notN ?_
  | with_reducible refine i_in_c ?_
  | with_reducible refine i_nin_c ?_
  | with_reducible refine i_gsub ?_
  | with_reducible refine i_gcons ?_
  | with_reducible refine i_gnil ?_
  | with_reducible refine i_iList ?_
  | with_reducible refine i_iTup ?_
  | with_reducible refine i_iStr ?_
  | with_reducible refine i_iRng1 ?_
  | with_reducible refine i_lc ?_
  | with_reducible refine i_for ?_
  | with_reducible refine i_yes ?_
  | with_reducible refine i_repl ?_
  | with_reducible refine i_meth ?_
  | with_reducible refine i_fld ?_
  | with_reducible refine i_sfld ?_
  | with_reducible refine i_din ?_
  | with_reducible refine i_dnin ?_
  | with_reducible refine i_dget ?_
  | with_reducible refine i_dput ?_
  | with_reducible refine i_joined ?_
  | with_reducible refine i_callS ?_
  | with_reducible refine i_xf ?_
  | with_reducible refine i_revL ?_
  | with_reducible refine i_items ?_
  | with_reducible refine i_stepL ?_
  | with_reducible refine i_make ?_
  | with_reducible refine i_fmt ?_
  | with_reducible refine i_jcons ?_
  | with_reducible refine i_jnil ?_
  | with_reducible refine i_iEnum ?_
  | with_reducible refine iteT ?_
  | with_reducible refine iteF ?_
  | with_reducible refine iteNT ?_
  | with_reducible refine iteNF ?_
  | ((with_reducible refine i_len_s ?_ ?_); (first | assumption | exact szl (by assumption)))
  | ((with_reducible refine i_sl_s ?_ ?_); (first | assumption | exact szl (by assumption)))
  | with_reducible refine i_int_b ?_
  | with_reducible refine i_abs ?_
  | with_reducible refine i_min2 ?_
  | with_reducible refine i_eq rfl ?_
  | with_reducible refine i_ne rfl ?_)
local macro_rules | `(tactic| walk_at "rd") => `(tactic| repeat walk_at "rd1")

abbrev s_room_left : Stmt := topS 17
theorem sc_room_left : FnScope ["value", "deep", "room", "part"] ["value", "deep", "room"] (defScope s_room_left) := ⟨rfl, rfl, rfl, by decide +kernel, rfl, by decide +kernel, by decide +kernel⟩
abbrev s_is_tree : Stmt := topS 18
theorem sc_is_tree : FnScope ["value"] ["value"] (defScope s_is_tree) := ⟨rfl, rfl, rfl, by decide +kernel, rfl, by decide +kernel, by decide +kernel⟩
theorem len_S_le {n : Nat} (h : n ≤ 100000) : n ≤ sizeLine := szl h
mutual
/-- texts and rows are not larger than the line -/
def lim : PyData → Bool
  | .str z => decide (z.length ≤ 100000)
  | .tuple ds => decide (ds.length ≤ 100000) && lims ds
  | .none | .bool _ | .int _ | .list _ | .dict _ => true
def lims : List PyData → Bool
  | [] => true
  | d :: ds => lim d && lims ds
end
mutual
theorem lim_good : ∀ d, good d = true → lim d = true
  | .str z, h => by simp only [good, lim, Bool.and_eq_true, decide_eq_true_eq] at h ⊢; omega
  | .tuple ds, h => by
    simp only [good, lim, Bool.and_eq_true, decide_eq_true_eq] at h ⊢
    exact ⟨by omega, lims_good ds h.2⟩
  | .none, _ => rfl
  | .bool _, _ => rfl
  | .int _, _ => rfl
  | .list _, _ => rfl
  | .dict _, _ => rfl
theorem lims_good : ∀ ds, goods ds = true → lims ds = true
  | [], _ => rfl
  | d :: ds, h => by
    simp only [goods, lims, Bool.and_eq_true] at h ⊢
    exact ⟨lim_good d h.1, lims_good ds h.2⟩
end
theorem lims_get : ∀ {ds : List PyData} {i : Nat} {d : PyData}, lims ds = true → ds[i]? = some d → lim d = true
  | e :: ds, 0, d, h, q => by
    simp only [lims, Bool.and_eq_true] at h
    rw [← show e = d from Option.some.inj q]; exact h.1
  | e :: ds, i + 1, d, h, q => by
    simp only [lims, Bool.and_eq_true] at h
    exact lims_get (ds := ds) (i := i) h.2 q
  | [], _, _, _, q => by simp at q
def optV : Option Nat → V
  | none => .non
  | some r => .int (r : Nat)
section
variable {P : Program} {w : World} {K : PySem.W.Frag} {mg : Str → Option Value} {base : Heap}
structure GTrees (mg : Str → Option Value) : Prop where
  signs : GV mg "MOST_SIGNS" (.int 300)
  parts : GV mg "MOST_PARTS" (.int 40)
  size : GV mg "MOST_SIZE" (.int 600)
  deep : GV mg "MOST_DEEP" (.int 12)
def spRoom (K : PySem.W.Frag) (n : Nat) : Sp := fun vs H Q _ => ∃ (v : V) (d : PyData) (k r : Nat), vs = [v, .int (k : Nat), .int (r : Nat)] ∧ Dt K H d v ∧ lim d = true ∧ k < n ∧ ∀ H', Same H H' → Q (optV (roomL d k r)) H'
theorem ty_dt {H : Hp} {d : PyData} {v : V} (h : Dt K H d v) : (∃ z, d = .str z ∧ v = .str z) ∨ (∃ ds a xs, d = .tuple ds ∧ v = .ref a ∧ SqT K H a xs ∧ Dts K H ds xs) ∨
    ((∃ T, TyX K H v (.type T) ∧ kitB T "str" = some false ∧ kitB T "tuple" = some false) ∧ ∀ n r, roomL d n r = none) := by
  cases d with
  | str z => exact .inl ⟨z, rfl, h.str⟩
  | tuple ds =>
    obtain ⟨a, xs, e, s, q⟩ := h.tup
    exact .inr (.inl ⟨ds, a, xs, rfl, e, s, q⟩)
  | none => rw [h.non]; exact .inr (.inr ⟨⟨_, .base .non, by decide +kernel, by decide +kernel⟩, fun n r => by simp [roomL]⟩)
  | bool b => unfold Dt at h; rw [h]; exact .inr (.inr ⟨⟨_, .base (.bl b), by decide +kernel, by decide +kernel⟩, fun n r => by simp [roomL]⟩)
  | int b => unfold Dt at h; rw [h]; exact .inr (.inr ⟨⟨_, .base (.int b), by decide +kernel, by decide +kernel⟩, fun n r => by simp [roomL]⟩)
  | list b => unfold Dt at h; exact h.elim
  | dict b => unfold Dt at h; exact h.elim
theorem ok_room (D : Df K mg "room_left" "room_left" s_room_left ["value", "deep", "room"]) (B : NoB mg) (G : GTrees mg) (C_is_plain : Cal P w K mg base CX0 "is_plain" ["value"] 1 spIsPlain) :
    ∀ n, Cal P w K mg base CX0 "room_left" ["value", "deep", "room"] (n + 1) (spRoom K n) := by
  refine D.turns (fun n => n + 1) (spRoom K) (fun vs H Q E h => ?_) (fun n f fd F C_room_left => ?_)
  · obtain ⟨_, _, _, _, _, _, _, h, _⟩ := h
    omega
  have g_MOST_SIGNS := G.signs
  have g_MOST_PARTS := G.parts
  refine F.ok sc_room_left (fun vs H Q E h => ?_) (fun cdv A outer s H vs Q E hr h => ?_)
  · obtain ⟨_, _, _, _, rfl, _⟩ := h
    rfl
  · obtain ⟨v, d, kk, r, rfl, hd, hl, hkn, q⟩ := h
    refine ⟨_, (pss_cons (ps_if (pt_cmpR (op_eqU K hr.units) (pv 1) pe_int (nomark _)) (pss_one (ps_ret pe_non)) pss_nil)
      (pss_cons (ps_if (pt_val (pe_callB (call_isiU K) (by rfl) B.m_isinstance (by decide +kernel) (pa_cons (pv 0) (pa_cons (pe_ty (T := "tuple") (by rfl) B.m_tuple (by decide +kernel)) pa_nil)))) (pss_cons (ps_if (PW.pt (pw_or (pt_cmpR op_gtU (pe_callB (call_lenU K) (by rfl) B.m_len (by decide +kernel) (pa_cons (pv 0) pa_nil)) (pe_gv (by rfl) g_MOST_PARTS) (nomark _)) (pw_or1 (pt_cmpR op_ltU (pv 2) pe_int (nomark _))))) (pss_one (ps_ret pe_non)) pss_nil)
      (pss_cons (ps_aug (i := 2) sc_room_left.nd rfl (.inl rfl) pe_int ip_sub)
      (pss_cons (ps_for PassesOwn.never rfl (pi_tupU K (pv 0)) (pg_name (i := 3) sc_room_left.nd rfl (.inl rfl)) (pss_cons (ps_set (i := 2) sc_room_left.nd rfl (.inl rfl) (pe_cal C_room_left hr (by rfl) (pa_cons (pv 3) (pa_cons (pe_op op_subU (pv 1) pe_int) (pa_cons (pv 2) pa_nil))) (by omega)))
      (pss_one (ps_if (pt_cmpR op_isNo (pv 2) pe_non (nomark _)) (pss_one (ps_ret pe_non)) pss_nil))))
      (pss_one (ps_ret (pv 2)))))) pss_nil)
      (pss_cons (ps_if (PW.pt (pw_or (pt_not (pt_val (pe_callB (call_isiU K) (by rfl) B.m_isinstance (by decide +kernel) (pa_cons (pv 0) (pa_cons (pe_ty (T := "str") (by rfl) B.m_str (by decide +kernel)) pa_nil))))) (pw_or (pt_cmpR op_gtU (pe_callB (call_lenU K) (by rfl) B.m_len (by decide +kernel) (pa_cons (pv 0) pa_nil)) (pe_gv (by rfl) g_MOST_SIGNS) (nomark _)) (pw_or (pt_cmpR op_geU (pe_callB (call_lenU K) (by rfl) B.m_len (by decide +kernel) (pa_cons (pv 0) pa_nil)) (pv 2) (nomark _)) (pw_or1 (pt_not (pt_val (pe_cal C_is_plain hr (by rfl) (pa_cons (pv 0) pa_nil) (by omega))))))))) (pss_one (ps_ret pe_non)) pss_nil)
      (pss_one (ps_ret (pe_op op_subU (pe_op op_subU (pv 2) (pe_callB (call_lenU K) (by rfl) B.m_len (by decide +kernel) (pa_cons (pv 0) pa_nil))) pe_int)))))), ?_⟩
    walk_at "rd"
    refine ite2 (fun h0 => ?_) (fun h0 => ?_)
    · have e : kk = 0 := by simpa using h0
      subst e
      walk_at "rd"
      have e : roomL d 0 r = none := by cases d <;> simp [roomL]
      rw [e] at q
      exact q _ (Same.refl H)
    · obtain ⟨m, rfl⟩ : ∃ m, kk = m + 1 := ⟨kk - 1, by simp at h0; omega⟩
      rcases ty_dt hd with ⟨z, rfl, rfl⟩ | ⟨ds, a, xs, rfl, rfl, hs, hq⟩ | ⟨⟨T, ty, t1, t2⟩, hn⟩
      · have hz : z.length ≤ 100000 := by simpa [lim] using hl
        walk_at "rd"
        refine i_isi (.base (.str z)) (b := false) (by decide +kernel) ?_
        walk_at "rd"
        refine i_isi (.base (.str z)) (b := true) (by decide +kernel) ?_
        walk_at "rd"
        refine ite2 (fun h1 => ?_) (fun h1 => ?_)
        · walk_at "rd"
          have e : roomL (.str z) (m + 1) r = none := by simp at h1; simp only [roomL]; rw [if_pos (by omega)]
          rw [e] at q
          exact q _ (Same.refl H)
        · walk_at "rd"
          refine ite2 (fun h2 => ?_) (fun h2 => ?_)
          · walk_at "rd"
            have e : roomL (.str z) (m + 1) r = none := by simp at h1 h2; simp only [roomL]; rw [if_pos (by omega)]
            rw [e] at q
            exact q _ (Same.refl H)
          · walk_at "rd"
            refine ⟨z, rfl, hz, fun H1 s1 => ?_⟩
            walk_at "rd"
            refine ite2 (fun h3 => ?_) (fun h3 => ?_)
            · walk_at "rd"
              have e : roomL (.str z) (m + 1) r = none := by simp only [Bool.not_eq_true'] at h3; simp only [roomL]; rw [if_pos (.inr (.inr h3))]
              rw [e] at q
              exact q _ s1
            · walk_at "rd"
              have e : roomL (.str z) (m + 1) r = some (r - z.length - 1) := by
                simp at h1 h2
                simp only [roomL]
                rw [if_neg]
                rintro (k | k | k)
                · omega
                · omega
                · rw [k] at h3; exact h3 rfl
              rw [e] at q
              have e2 : ((r : Int) - (z.length : Nat) - 1) = ((r - z.length - 1 : Nat) : Int) := by simp at h1 h2; omega
              rw [e2]
              exact q _ s1
      · walk_at "rd"
        refine i_isi (ty_sq hs) (b := true) (by decide +kernel) ?_
        walk_at "rd"
        refine i_len_t hs ?_
        walk_at "rd"
        have hlen := hq.length
        refine ite2 (fun h1 => ?_) (fun h1 => ?_)
        · walk_at "rd"
          have e : roomL (.tuple ds) (m + 1) r = none := by simp at h1; simp only [roomL]; rw [if_pos (by omega)]
          rw [e] at q
          exact q _ (Same.refl H)
        · walk_at "rd"
          refine ite2 (fun h2 => ?_) (fun h2 => ?_)
          · walk_at "rd"
            have e : roomL (.tuple ds) (m + 1) r = none := by simp at h1 h2; simp only [roomL]; rw [if_pos (by omega)]
            rw [e] at q
            exact q _ (Same.refl H)
          · walk_at "rd"
            have e : roomL (.tuple ds) (m + 1) r = roomLs ds m (r - 1) := by simp at h1 h2; simp only [roomL]; rw [if_neg (by omega)]
            rw [e] at q
            have hls : lims ds = true := by simp only [lim, Bool.and_eq_true] at hl; exact hl.2
            have e1 : ((r : Int) - 1) = ((r - 1 : Nat) : Int) := by simp at h2; omega
            rw [e1]
            refine f_tup hs (fun i σ H1 => ∃ (r' : Nat) (y : Option V), σ = [some (.ref a), some (.int ((m + 1 : Nat) : Int)), some (.int (r' : Nat)), y] ∧ Same H H1 ∧ roomLs ds m (r - 1) = roomLs (ds.drop i) m r') ?_ ?_ ?_ ?_
            · exact ⟨r - 1, none, rfl, Same.refl H, rfl⟩
            · rintro i σ H1 _ ⟨r', y, rfl, s1, _⟩
              exact sqT_tt (.same s1) hs
            · rintro i x σ H1 hx ⟨r', y, rfl, s1, e1⟩
              obtain ⟨d, hdi, hdx⟩ := hq.get hx
              walk_at "rd"
              have e2 : (((m + 1 : Nat) : Int) - 1) = (m : Int) := by omega
              rw [e2]
              refine ⟨x, d, m, r', rfl, hdx.mono (.same s1), lims_get hls hdi, by omega, fun H2 s2 => ?_⟩
              walk_at "rd"
              have e3 : roomLs (ds.drop i) m r' = match roomL d m r' with | none => none | some q => roomLs (ds.drop (i + 1)) m q := by
                obtain ⟨hi, hg⟩ := List.getElem?_eq_some_iff.mp hdi
                rw [List.drop_eq_getElem_cons hi, hg, roomLs]
                all_goals (cases roomL d m r' <;> rfl)
              cases e4 : roomL d m r' with
              | none =>
                rw [e4] at e3
                walk_at "rd"
                refine iteT ?_
                walk_at "rd"
                rw [e1, e3] at q
                exact q _ (s1.trans s2)
              | some r2 =>
                rw [e4] at e3
                walk_at "rd"
                refine iteF ?_
                walk_at "rd"
                exact ⟨r2, some x, rfl, s1.trans s2, e1.trans e3⟩
            · rintro σ H1 ⟨r', y, rfl, s1, e1⟩
              walk_at "rd"
              rw [e1, hlen, List.drop_length] at q
              exact q _ s1
      · walk_at "rd"
        refine i_isi ty t2 ?_
        walk_at "rd"
        refine i_isi ty t1 ?_
        walk_at "rd"
        rw [hn] at q
        exact q _ (Same.refl H)
/-! is_tree -/
def spIsTree (K : PySem.W.Frag) : Sp := fun vs H Q _ => ∃ (v : V) (d : PyData), vs = [v] ∧ Dt K H d v ∧ lim d = true ∧ ∀ H', Same H H' → Q (.bl (treeOk d)) H'
theorem ok_is_tree (D : Df K mg "is_tree" "is_tree" s_is_tree ["value"]) (B : NoB mg) (G : GTrees mg) (C_room_left : Cal P w K mg base CX0 "room_left" ["value", "deep", "room"] 14 (spRoom K 13)) : Cal P w K mg base CX0 "is_tree" ["value"] 15 (spIsTree K) := by
  have g_MOST_DEEP := G.deep
  have g_MOST_SIZE := G.size
  refine D.cal fun f fd F => F.ok sc_is_tree (fun vs H Q E h => ?_) (fun cdv A outer s H vs Q E hr h => ?_)
  · obtain ⟨_, _, rfl, _⟩ := h
    rfl
  · obtain ⟨v, d, rfl, hd, hl, q⟩ := h
    refine ⟨_, (pss_one (ps_ret (pe_cmpR op_notNo (pe_cal C_room_left hr (by rfl) (pa_cons (pv 0) (pa_cons (pe_gv (by rfl) g_MOST_DEEP) (pa_cons (pe_gv (by rfl) g_MOST_SIZE) pa_nil)))) pe_non (nomark _)))), ?_⟩
    walk_at "rd"
    refine ⟨v, d, 12, 600, rfl, hd, hl, by omega, fun H1 s1 => ?_⟩
    walk_at "rd"
    have q := q H1 s1
    unfold treeOk at q
    cases e : roomL d 12 600 with
    | none => rw [e] at q; exact q
    | some r => rw [e] at q; exact q
end
end Aw

namespace Aw
open PySem PySem.Spec PyProof.Rows L2
theorem good_cases {d : PyData} (h : good d = true) : (∃ z, d = .str z ∧ z.length ≤ 300 ∧ z.cps.toList.all plainC = true) ∨ ∃ ds, d = .tuple ds ∧ ds.length ≤ 40 ∧ goods ds = true := by
  cases d with
  | str z => simp only [good, Bool.and_eq_true, decide_eq_true_eq] at h; exact .inl ⟨z, rfl, h.1, h.2⟩
  | tuple ds => simp only [good, Bool.and_eq_true, decide_eq_true_eq] at h; exact .inr ⟨ds, rfl, h.1, h.2⟩
  | none => simp [good] at h
  | bool b => simp [good] at h
  | int b => simp [good] at h
  | list b => simp [good] at h
  | dict b => simp [good] at h
theorem goods_get {ds : List PyData} {i : Nat} {d : PyData} (h : goods ds = true) (e : ds[i]? = some d) : good d = true := goods_mem h (List.mem_of_getElem? e)
section
variable {K : PySem.W.Frag}
theorem dS {c : Nat} {z : Str} {d : Nat} (h : z = S [d]) : decide (V.str ⟨#[c]⟩ = V.str z) = decide (c = d) := by
  rw [decS, h]
  by_cases e : c = d
  · subst e; rw [decide_eq_true rfl]; exact decide_eq_true rfl
  · rw [decide_eq_false e]; exact decide_eq_false fun q => e (by have := S_inj (show S [c] = S [d] from q); simpa using this)
theorem SqT.mk {H : Hp} {a : Addr} {xs : List V} (h : H a = some (.tup xs)) : SqT K H a xs := .inl (.inl h)
theorem Dt.pairX {H : Hp} {a b : PyData} {v : V} (h : Dt K H (.tuple [a, b]) v) : ∃ p x y, v = .ref p ∧ H p = some (.tup [x, y]) ∧ Dt K H a x ∧ Dt K H b y := by
  obtain ⟨p, xs, e, s, q⟩ := h.tupX
  obtain ⟨x, r, rfl, qx, q⟩ := q.cons
  obtain ⟨y, r, rfl, qy, q⟩ := q.cons
  rw [q.nil] at s
  exact ⟨p, x, y, e, s, qx, qy⟩
theorem Dt.pair {H : Hp} {a b : PyData} {v : V} (h : Dt K H (.tuple [a, b]) v) : ∃ p x y, v = .ref p ∧ SqT K H p [x, y] ∧ Dt K H a x ∧ Dt K H b y := by
  obtain ⟨p, xs, e, s, q⟩ := h.tup
  obtain ⟨x, r, rfl, qx, q⟩ := q.cons
  obtain ⟨y, r, rfl, qy, q⟩ := q.cons
  rw [q.nil] at s
  exact ⟨p, x, y, e, s, qx, qy⟩
end
end Aw

namespace Aw
open PySem PySem.Spec PyProof.Rows L2

local macro_rules | `(tactic| walk_at "rd1") => `(tactic| first
  | ((with_reducible apply i_var); exact rfl)
  | with_reducible refine i_c ?_
  | with_reducible refine i_op ?_
  | with_reducible refine i_un ?_
  | with_reducible refine i_test ?_
  | with_reducible refine i_tB ?_
  | with_reducible refine i_bl ?_
  | with_reducible refine i_and ?_
  | with_reducible refine i_or ?_
  | with_reducible refine i_not ?_
  | with_reducible refine i_andV ?_
  | with_reducible refine i_orV ?_
  | with_reducible refine i_notV ?_
  | with_reducible refine i_if ?_
  | with_reducible refine i_chain ?_
  | with_reducible refine i_nil ?_
  | with_reducible refine i_cons ?_
  | with_reducible refine i_tup ?_
  | with_reducible refine i_lst ?_
  | with_reducible refine i_cb ?_
  | with_reducible refine i_call ?_
  | with_reducible refine i_bm ?_
  | with_reducible refine i_m1 ?_
  | with_reducible refine i_m0 ?_
  | with_reducible refine i_exstr ?_
  | with_reducible refine i_sl ?_
  | with_reducible refine i_nopart ?_
  | with_reducible refine i_part ?_
  | with_reducible refine i_int ?_
  | with_reducible refine i_seq ?_
  | with_reducible refine i_next ?_
  | with_reducible refine i_asg ?_
  | with_reducible refine i_gname ?_
  | with_reducible refine i_ret ?_
  | with_reducible refine i_retN ?_
  | with_reducible refine i_drop ?_
  | with_reducible refine i_ifS ?_
  | with_reducible refine i_break ?_
  | with_reducible refine i_cont ?_
  | ((with_reducible apply i_aug); exact rfl)
  | with_reducible refine i_add_i ?_
  | with_reducible refine i_sub ?_
  | with_reducible refine i_neg ?_
  | with_reducible refine i_ipadd_i ?_
  | with_reducible refine i_ip ?_
  | with_reducible refine i_lt ?_
  | with_reducible refine i_le ?_
  | with_reducible refine i_gt ?_
  | with_reducible refine i_ge ?_
  | with_reducible refine i_lt_s ?_
  | with_reducible refine i_le_s ?_
  | with_reducible refine i_gt_s ?_
  | with_reducible refine i_ge_s ?_
  | with_reducible refine i_isN ?_
  | with_reducible refine i_notN ?_
  | with_reducible refine i_in_c ?_
  | with_reducible refine i_nin_c ?_
  | with_reducible refine i_gsub ?_
  | with_reducible refine i_gcons ?_
  | with_reducible refine i_gnil ?_
  | with_reducible refine i_iList ?_
  | with_reducible refine i_iTup ?_
  | with_reducible refine i_iStr ?_
  | with_reducible refine i_iRng1 ?_
  | with_reducible refine i_lc ?_
  | with_reducible refine i_for ?_
  | with_reducible refine i_yes ?_
  | with_reducible refine i_repl ?_
  | with_reducible refine i_meth ?_
  | with_reducible refine i_fld ?_
  | with_reducible refine i_sfld ?_
  | with_reducible refine i_din ?_
  | with_reducible refine i_dnin ?_
  | with_reducible refine i_dget ?_
  | with_reducible refine i_dput ?_
  | with_reducible refine i_joined ?_
  | with_reducible refine i_callS ?_
  | with_reducible refine i_xf ?_
  | with_reducible refine i_revL ?_
  | with_reducible refine i_items ?_
  | with_reducible refine i_stepL ?_
  | with_reducible refine i_make ?_
  | with_reducible refine i_fmt ?_
  | with_reducible refine i_jcons ?_
  | with_reducible refine i_jnil ?_
  | with_reducible refine i_iEnum ?_
  | with_reducible refine iteT ?_
  | with_reducible refine iteF ?_
  | with_reducible refine iteNT ?_
  | with_reducible refine iteNF ?_
  | ((with_reducible refine i_len_s ?_ ?_); (first | assumption | exact szl (by assumption)))
  | ((with_reducible refine i_sl_s ?_ ?_); (first | assumption | exact szl (by assumption)))
  | with_reducible refine i_int_b ?_
  | with_reducible refine i_abs ?_
  | with_reducible refine i_min2 ?_
  | with_reducible refine i_eq rfl ?_
  | with_reducible refine i_ne rfl ?_)
local macro_rules | `(tactic| walk_at "rd") => `(tactic| repeat walk_at "rd1")

abbrev s_is_source : Stmt := topS 58
theorem sc_is_source : FnScope ["value"] ["value"] (defScope s_is_source) := ⟨rfl, rfl, rfl, by decide +kernel, rfl, by decide +kernel, by decide +kernel⟩
abbrev s_Project___init__ : Stmt := inClass (topS 59) 0
theorem sc_Project___init__ : FnScope ["self", "sources", "table", "name", "source"] ["self", "sources"] (defScope s_Project___init__) := ⟨rfl, rfl, rfl, by decide +kernel, rfl, by decide +kernel, by decide +kernel⟩
abbrev s_Project_sources : Stmt := inClass (topS 59) 1
theorem sc_Project_sources : FnScope ["self", "name"] ["self"] (defScope s_Project_sources) := ⟨rfl, rfl, rfl, by decide +kernel, rfl, by decide +kernel, by decide +kernel⟩
section
variable {P : Program} {w : World} {K : PySem.W.Frag} {mg : Str → Option Value} {base : Heap}
def spIsSource (K : PySem.W.Frag) : Sp := fun vs H Q _ => ∃ (v : V) (s : Src), vs = [v] ∧ Dt K H s.py v ∧ s.ok ∧ ∀ H', Same H H' → Q (.bl true) H'
theorem ok_is_source (D : Df K mg "is_source" "is_source" s_is_source ["value"]) (B : NoB mg) (C_is_name : Cal P w K mg base CX0 "is_name" ["value"] 1 spIsName) (C_is_tree : Cal P w K mg base CX0 "is_tree" ["value"] 15 (spIsTree K)) :
    Cal P w K mg base CX0 "is_source" ["value"] 16 (spIsSource K) := by
  refine D.cal fun f fd F => F.ok sc_is_source (fun vs H Q E h => ?_) (fun cdv A outer s H vs Q E hr h => ?_)
  · obtain ⟨_, _, rfl, _⟩ := h
    rfl
  · obtain ⟨v, s, rfl, hd, hok, q⟩ := h
    refine ⟨_, (pss_cons (ps_if (PW.pt (pw_or (pt_not (pt_val (pe_callB (call_isiU K) (by rfl) B.m_isinstance (by decide +kernel) (pa_cons (pv 0) (pa_cons (pe_ty (T := "tuple") (by rfl) B.m_tuple (by decide +kernel)) pa_nil))))) (pw_or (pt_cmpR (op_neU K hr.units) (pe_callB (call_lenU K) (by rfl) B.m_len (by decide +kernel) (pa_cons (pv 0) pa_nil)) pe_int (nomark _)) (pw_or1 (pt_not (pt_val (pe_callB (call_isiU K) (by rfl) B.m_isinstance (by decide +kernel) (pa_cons (pe_ix (ix_U K) (pv 0) pe_int (fun _ _ => rfl)) (pa_cons (pe_ty (T := "str") (by rfl) B.m_str (by decide +kernel)) pa_nil))))))))) (pss_one (ps_ret pe_bl)) pss_nil)
      (pss_cons (ps_if (pt_cmpR (op_eqU K hr.units) (pe_ix (ix_U K) (pv 0) pe_int (fun _ _ => rfl)) pe_str (nomark _)) (pss_one (ps_ret (pe_cal C_is_name hr (by rfl) (pa_cons (pe_ix (ix_U K) (pv 0) pe_int (fun _ _ => rfl)) pa_nil)))) pss_nil)
      (pss_one (ps_ret (pe_and (pe_cmpR (op_inU K) (pe_ix (ix_U K) (pv 0) pe_int (fun _ _ => rfl)) (pe_tup (pa_cons pe_str (pa_cons pe_str pa_nil))) (by with_unfolding_all rfl)) (pe_one (pe_cal C_is_tree hr (by rfl) (pa_cons (pe_ix (ix_U K) (pv 0) pe_int (fun _ _ => rfl)) pa_nil)))))))), ?_⟩
    obtain ⟨p, x, y, rfl, hs, hx, hy⟩ := hd.pair
    have e := hx.str
    subst e
    walk_at "rd"
    refine i_isi (ty_sq hs) (b := true) (by decide +kernel) ?_
    walk_at "rd"
    refine i_len_t hs ?_
    walk_at "rd"
    rw [show decide (V.int (([V.str s.k, y].length : Nat) : Int) = V.int 2) = true from decide_eq_true rfl]
    walk_at "rd"
    refine i_ix_t hs (atI_nat (j := 0) rfl) ?_
    walk_at "rd"
    refine i_isi (.base (.str s.k)) (b := true) (by decide +kernel) ?_
    walk_at "rd"
    refine i_ix_t hs (atI_nat (j := 0) rfl) ?_
    walk_at "rd"
    rcases hok with ⟨h1, z, h2, h3⟩ | ⟨h1, h2⟩
    · rw [h1, show decide (V.str "made" = V.str "made") = true from decide_eq_true rfl]
      walk_at "rd"
      refine i_ix_t hs (atI_nat (j := 1) rfl) ?_
      walk_at "rd"
      rw [h2] at hy
      have e := hy.str
      subst e
      refine ⟨z, rfl, by have := nameOk_len h3; omega, fun H1 s1 => ?_⟩
      rw [h3]
      exact q H1 s1
    · have hn : ¬ s.k = "made" := by rcases h1 with e | e <;> rw [e] <;> decide
      rw [decS, decide_eq_false hn]
      walk_at "rd"
      refine i_ix_t hs (atI_nat (j := 0) rfl) ?_
      walk_at "rd"
      refine i_new_t (by show 2 ≤ sizeLine; decide) fun t H1 nt s1 e1 => ?_
      refine i_in_t (.inl (.inl e1)) rfl rfl ?_
      have hin : inV (V.str s.k) [V.str "leaf", V.str "rule"] = true := by rcases h1 with e | e <;> rw [e] <;> decide
      rw [hin]
      walk_at "rd"
      refine i_ix_t (sqT_tt (.same s1) hs) (atI_nat (j := 1) rfl) ?_
      walk_at "rd"
      refine ⟨y, s.x, rfl, hy.mono (.same s1), lim_good _ (treeOk_good h2).g, fun H2 s2 => ?_⟩
      rw [h2]
      exact q H2 (s1.trans s2)
/-! ### Project -/
structure PCls (K : PySem.W.Frag) (mg : Str → Option Value) (C : Addr) : Prop where
  cl : Cls K C
  nT : NoAttr K C "table"
def KVs (K : PySem.W.Frag) (H : Hp) : List (Key × V) → Prs → Prop
  | [], [] => True
  | kv :: r, p :: s => kv.1 = Sum.inr p.1 ∧ Dt K H p.2.py kv.2 ∧ KVs K H r s
  | _, _ => False
theorem KVs.mono {H H' : Hp} (t : Stay H H') : ∀ {kvs : List (Key × V)} {prs : Prs}, KVs K H kvs prs → KVs K H' kvs prs
  | [], [], _ => trivial
  | kv :: r, p :: s, h => ⟨h.1, h.2.1.mono t, KVs.mono t h.2.2⟩
  | [], _ :: _, h => h.elim
  | _ :: _, [], h => h.elim
theorem KVs.length {H : Hp} : ∀ {kvs : List (Key × V)} {prs : Prs}, KVs K H kvs prs → kvs.length = prs.length
  | [], [], _ => rfl
  | kv :: r, p :: s, h => by rw [List.length_cons, List.length_cons, KVs.length h.2.2]
  | [], _ :: _, h => h.elim
  | _ :: _, [], h => h.elim
theorem KVs.keys {H : Hp} : ∀ {kvs : List (Key × V)} {prs : Prs}, KVs K H kvs prs → kvs.map (·.1) = (names prs).map Sum.inr
  | [], [], _ => rfl
  | kv :: r, p :: s, h => by
    have := KVs.keys h.2.2
    unfold names at this ⊢
    rw [List.map_cons, List.map_cons, List.map_cons, this, h.1]
  | [], _ :: _, h => h.elim
  | _ :: _, [], h => h.elim
theorem KVs.none {H : Hp} : ∀ {kvs : List (Key × V)} {prs : Prs} {z : Str}, KVs K H kvs prs → z ∉ names prs → valV kvs (Sum.inr z : Key) = none
  | [], [], z, _, _ => rfl
  | kv :: r, p :: s, z, h, n => by
    have hne : ¬ kv.1 = Sum.inr z := by
      rw [h.1]
      intro e
      apply n
      unfold names
      rw [List.map_cons, Sum.inr.inj e]
      exact List.mem_cons_self ..
    rw [show valV (kv :: r) (Sum.inr z : Key) = valV r (Sum.inr z : Key) by simp [valV, List.find?_cons, hne]]
    exact KVs.none h.2.2 fun e => n (List.mem_cons_of_mem _ e)
  | [], _ :: _, _, h, _ => h.elim
  | _ :: _, [], _, h, _ => h.elim
theorem KVs.some {H : Hp} : ∀ {kvs : List (Key × V)} {prs : Prs} {p : Str × Src}, KVs K H kvs prs → (names prs).Nodup → p ∈ prs → ∃ v, valV kvs (Sum.inr p.1 : Key) = some v ∧ Dt K H p.2.py v
  | kv :: r, q :: s, p, h, nd, hp => by
    unfold names at nd
    rw [List.map_cons, List.nodup_cons] at nd
    rcases List.mem_cons.mp hp with rfl | hp
    · exact ⟨kv.2, valV_pos h.1, h.2.1⟩
    · have hne : ¬ kv.1 = Sum.inr p.1 := by
        rw [h.1]
        intro e
        exact nd.1 (Sum.inr.inj e ▸ List.mem_map_of_mem hp)
      obtain ⟨v, e, d⟩ := KVs.some h.2.2 nd.2 hp
      exact ⟨v, by rw [← e]; simp [valV, List.find?_cons, hne], d⟩
  | [], _ :: _, _, h, _, _ => h.elim
  | _, [], _, _, _, hp => by cases hp
theorem KVs.snoc {H : Hp} {n : Str} {s : Src} {v : V} : ∀ {kvs : List (Key × V)} {prs : Prs}, KVs K H kvs prs → Dt K H s.py v → KVs K H (kvs ++ [(Sum.inr n, v)]) (prs ++ [(n, s)])
  | [], [], _, d => ⟨rfl, d, trivial⟩
  | kv :: r, p :: t, h, d => ⟨h.1, h.2.1, KVs.snoc h.2.2 d⟩
  | [], _ :: _, h, _ => h.elim
  | _ :: _, [], h, _ => h.elim
/-- a project stands at p -/
def IsPr (K : PySem.W.Frag) (C : Addr) (H : Hp) (p : Addr) (prs : Prs) : Prop := ∃ dx t kvs, H p = some (.ins C dx [("table", .ref t)]) ∧ H t = some (.dK kvs) ∧ KVs K H kvs prs
theorem IsPr.same {C p : Addr} {H H' : Hp} {prs : Prs} (h : IsPr K C H p prs) (s : Same H H') : IsPr K C H' p prs := by
  obtain ⟨dx, t, kvs, e1, e2, k⟩ := h
  exact ⟨dx, t, kvs, s _ _ e1, s _ _ e2, k.mono (.same s)⟩
theorem IsPr.but {C p l : Addr} {H H' : Hp} {prs : Prs} {xs : List V} (h : IsPr K C H p prs) (b : Bt l H H') (e : H l = some (.lst xs)) : IsPr K C H' p prs := by
  obtain ⟨dx, t, kvs, e1, e2, k⟩ := h
  exact ⟨dx, t, kvs, b.ne e e1 (fun z => nomatch z), b.ne e e2 (fun z => nomatch z), k.mono (.but b e)⟩
def spPrInit (K : PySem.W.Frag) (C : Addr) : Sp := fun vs H Q _ => ∃ (p dx : Addr) (v : V) (prs : Prs), vs = [.ref p, v] ∧ H p = some (.ins C dx []) ∧ Dt K H (.tuple (prs.map prPy)) v ∧ PrsOk prs ∧
  ∀ H', (∀ b o, H b = some o → b ≠ p → H' b = some o) → IsPr K C H' p prs → Q .non H'
theorem putF_nil (f : Str) (v : V) : putF f v [] = [(f, v)] := rfl
theorem ok_pr_init {C : Addr} (D : DfI K mg C "Project" "Project.__init__" s_Project___init__ ["self", "sources"]) (T : PCls K mg C) (B : NoB mg) (G : GV mg "MOST_THINGS" (.int 60))
    (C_is_name : Cal P w K mg base CX0 "is_name" ["value"] 1 spIsName) (C_is_source : Cal P w K mg base CX0 "is_source" ["value"] 16 (spIsSource K)) : CalI P w K mg base CX0 C "Project" ["self", "sources"] 17 (spPrInit K C) := by
  have g_MOST_THINGS := G
  refine D.cal fun f fd F => F.ok sc_Project___init__ (fun vs H Q E h => ?_) (fun cdv A outer s H vs Q E hr h => ?_)
  · obtain ⟨_, _, _, _, rfl, _⟩ := h
    rfl
  · obtain ⟨p, dx, v, prs, rfl, hp, hd, hok, q⟩ := h
    refine ⟨_, (pss_cons (ps_set (i := 2) sc_Project___init__.nd rfl (.inl rfl) pe_dnewK)
      (pss_cons (ps_for PassesOwn.never rfl (pi_tupU K (pv 1)) (pg_tupU (n := 2) K (by rfl) (pgs_cons (pg_name (i := 3) sc_Project___init__.nd rfl (.inl rfl)) (pgs_cons (pg_name (i := 4) sc_Project___init__.nd rfl (.inl rfl)) pgs_nil))) (pss_cons (ps_if (pt_not (pt_val (pe_cal C_is_name hr (by rfl) (pa_cons (pv 3) pa_nil)))) (pss_one ps_never) pss_nil)
      (pss_cons (ps_if (PW.pt (pw_or (pt_not (pt_val (pe_cal C_is_source hr (by rfl) (pa_cons (pv 4) pa_nil)))) (pw_or (pt_cmp (pc_din (hu_of hr) (pv 3) (pv 2))) (pw_or1 (pt_cmpR op_geU (pe_callB (call_lenU K) (by rfl) B.m_len (by decide +kernel) (pa_cons (pv 2) pa_nil)) (pe_gv (by rfl) g_MOST_THINGS) (nomark _)))))) (pss_one ps_never) pss_nil)
      (pss_one (ps_dput (hu_of hr) (pv 2) (pv 3) (pv 4) rfl)))))
      (pss_one (ps_fldU K (pv 0) (pv 2) rfl)))), ?_⟩
    obtain ⟨a, xs, rfl, hs, hq⟩ := hd.tup
    have hlen := hq.length
    rw [List.length_map] at hlen
    walk_at "rd"
    refine i_dnew fun t H0 nt s0 e0 => ?_
    walk_at "rd"
    refine f_tup (sqT_tt (.same s0) hs) (fun i σ H1 => ∃ (kvs : List (Key × V)) (y1 y2 : Option V), σ = [some (.ref p), some (.ref a), some (.ref t), y1, y2] ∧ Same H H1 ∧ H1 t = some (.dK kvs) ∧ KVs K H1 kvs (prs.take i)) ?_ ?_ ?_ ?_
    · exact ⟨[], none, none, rfl, s0, e0, by rw [List.take_zero]; exact trivial⟩
    · rintro i σ H1 _ ⟨kvs, y1, y2, rfl, s1, _⟩
      exact sqT_tt (.same s1) hs
    · rintro i x σ H1 hx ⟨kvs, y1, y2, rfl, s1, e1, hk⟩
      obtain ⟨d, hdi, hdx⟩ := hq.get hx
      rw [List.getElem?_map] at hdi
      cases hpi : prs[i]? with
      | none => rw [hpi] at hdi; cases hdi
      | some pr =>
      rw [hpi] at hdi
      cases (Option.some.inj hdi)
      have hm := List.mem_of_getElem? hpi
      obtain ⟨b, x1, x2, rfl, hb, hx1, hx2⟩ := (hdx.mono (.same s1)).pair
      have e := hx1.str
      subst e
      walk_at "rd"
      refine i_gtup hb rfl ?_
      walk_at "rd"
      have hn := hok.nm _ hm
      refine ⟨pr.1, rfl, by have := nameOk_len hn; omega, fun H2 s2 => ?_⟩
      rw [hn]
      walk_at "rd"
      refine ⟨x2, pr.2, rfl, hx2.mono (.same s2), hok.sr _ hm, fun H3 s3 => ?_⟩
      walk_at "rd"
      have e3 := s3 _ _ (s2 _ _ e1)
      refine i_dik e3 ?_
      have hil : i < prs.length := (List.getElem?_eq_some_iff.mp hpi).1
      have hnn : pr.1 ∉ names (prs.take i) := by
        have nd := hok.nd
        unfold names at nd ⊢
        intro hmem
        rw [List.map_take] at hmem
        obtain ⟨j, hj, ej⟩ := List.mem_iff_getElem.mp hmem
        rw [List.length_take, List.length_map] at hj
        rw [List.getElem_take] at ej
        have e5 : (prs.map (·.1))[i]? = some pr.1 := by rw [List.getElem?_map, hpi]; rfl
        have e6 : (prs.map (·.1))[j]? = some pr.1 := by rw [List.getElem?_eq_getElem (by rw [List.length_map]; omega), ej]
        have := nd_ix nd e5 e6
        omega
      rw [hk.none hnn, show (Option.none : Option V).isSome = false from rfl]
      walk_at "rd"
      refine i_len_d e3 ?_
      walk_at "rd"
      have hkl := hk.length
      rw [List.length_take] at hkl
      have hln := hok.ln
      rw [decide_eq_false (by omega : ¬ ((kvs.length : Int) ≥ 60))]
      walk_at "rd"
      refine i_dpk e3 (szlt (by omega)) fun H4 b4 e4 => ?_
      rw [putK_new _ (hk.none hnn)] at e4
      have st : Stay H1 H4 := (Stay.same (s2.trans s3)).trans (.butD b4 e3)
      refine ⟨_, _, _, rfl, Same.but ((s1.trans s2).trans s3) nt b4, e4, ?_⟩
      rw [take_snoc hpi]
      exact (hk.mono st).snoc (hx2.mono st)
    · rintro σ H1 ⟨kvs, y1, y2, rfl, s1, e1, hk⟩
      rw [List.take_of_length_le (by omega)] at hk
      walk_at "rd"
      refine i_sk (s1 _ _ hp) T.cl T.nT (by decide) fun H2 b2 e2 => ?_
      rw [putF_nil] at e2
      have npt : t ≠ p := fun e => by rw [e] at nt; rw [nt] at hp; cases hp
      exact q H2 (fun b o e n => b2 b o n (s1 b o e)) ⟨dx, t, kvs, e2, b2 _ _ npt e1, hk.mono (.butI b2 (s1 _ _ hp))⟩
/-- the pairs, rising -/
def spPrSources (K : PySem.W.Frag) (C : Addr) : Sp := fun vs H Q _ => ∃ (p : Addr) (prs : Prs), vs = [.ref p] ∧ IsPr K C H p prs ∧ PrsOk prs ∧ ∀ H' v, Same H H' → Dt K H' (.tuple ((srtP prs).map prPy)) v → Q v H'
theorem ok_pr_sources {C : Addr} (D : DfM K C "sources" "Project.sources" s_Project_sources ["self"]) (T : PCls K mg C) (B : NoB mg) : CalM P w K mg base CX0 C "sources" ["self"] 1 (spPrSources K C) := by
  refine D.cal fun f fd F => F.ok sc_Project_sources (fun vs H Q E h => ?_) (fun cdv A outer s H vs Q E hr h => ?_)
  · obtain ⟨_, _, rfl, _⟩ := h
    rfl
  · obtain ⟨p, prs, rfl, hp, hok, q⟩ := h
    refine ⟨_, (pss_one (ps_ret (pe_callTy (call_tupU K) (by rfl) B.m_tuple (by decide +kernel) (pa_cons (pe_lc (own := [("name", 1)]) (by rfl) sc_Project_sources.nd (pi_listU K (pe_callB (call_sortSU K) (by rfl) B.m_sorted (by decide +kernel) (pa_cons (pe_callTy (call_listDk rfl) (by rfl) B.m_list (by decide +kernel) (pa_cons (pe_fldU K (pv 0) rfl) pa_nil)) pa_nil))) (blkOk_by (own := [("name", 1)]) (N := ["self", "name"]) (sc := defScope s_Project_sources) (by decide +kernel)) (fun _ _ _ _ _ => pg_name (i := 1) sc_Project_sources.nd rfl (Or.inl rfl)) (fun _ _ _ _ _ => pts_nil) (fun _ _ _ _ _ => (pe_tup (pa_cons (pv 1) (pa_cons (pe_dget (hu_of hr) (pe_fldU K (pv 0) rfl) (pv 1) (fun _ _ => rfl)) pa_nil))))) pa_nil)))), ?_⟩
    obtain ⟨dx, t, kvs, e1, e2, hk⟩ := id hp
    walk_at "rd"
    refine i_fk e1 T.cl T.nT rfl ?_
    walk_at "rd"
    refine i_listDk e2 fun l1 H1 n1 s1 e3 => ?_
    have e4 : (kvs.map fun kv => kV kv.1) = (names prs).map V.str := by
      have := congrArg (List.map kV) hk.keys
      rw [List.map_map, List.map_map] at this
      exact this
    rw [e4] at e3
    walk_at "rd"
    have hln := hok.ln
    refine i_sortS (.inl (.inl e3)) (by unfold names; rw [List.length_map]; omega) fun l2 H2 n2 s2 e5 => ?_
    have hsl : (srtN (names prs)).length = prs.length := by rw [(srtN_perm _).length_eq]; unfold names; rw [List.length_map]
    have s12 := s1.trans s2
    refine c_list (.inl (.inl e5)) (szlt (by rw [List.length_map]; omega)) (fun D i acc H3 => Same H2 H3 ∧ Dts K H3 (((srtP prs).take i).map prPy) acc) ?_ ?_ ?_ ?_
    · exact fun D H3 _ s3 _ => ⟨s3, dts_nil⟩
    · exact fun D i acc H3 _ h => h.1.seq (.inl (.inl e5))
    · rintro D i x acc H3 hD hx hl hi ha ⟨s3, hacc⟩
      rw [List.getElem?_map] at hx
      cases hy : (srtN (names prs))[i]? with
      | none => rw [hy] at hx; cases hx
      | some y =>
      rw [hy] at hx
      cases (Option.some.inj hx)
      have hpr : ∃ pr, (srtP prs)[i]? = some pr ∧ pr.1 = y := by
        have e6 := srtP_names prs
        unfold names at e6
        rw [← show names prs = prs.map (·.1) from rfl] at e6
        rw [← e6, List.getElem?_map] at hy
        cases e7 : (srtP prs)[i]? with
        | none => rw [e7] at hy; cases hy
        | some pr => rw [e7] at hy; exact ⟨pr, rfl, Option.some.inj hy⟩
      obtain ⟨pr, hpr, rfl⟩ := hpr
      have hm := srtP_mem (List.mem_of_getElem? hpr)
      obtain ⟨v, ev, dv⟩ := hk.some hok.nd hm
      walk_at "rd"
      refine ⟨rfl, ?_⟩
      walk_at "rd"
      refine i_fk (s3 _ _ (s12 _ _ e1)) T.cl T.nT rfl ?_
      walk_at "rd"
      refine i_dgk (s3 _ _ (s12 _ _ e2)) ev ?_
      walk_at "rd"
      refine i_new_t (by show 2 ≤ sizeLine; decide) fun u H4 nu s4 e8 => ?_
      refine i_ck (s4 _ _ ha) hl hi fun H5 b5 e9 => ⟨Same.but (s3.trans s4) hD b5, ?_⟩
      rw [take_snoc hpr, List.map_append]
      have st : Stay H H4 := .same ((s12.trans s3).trans s4)
      have d4 : Dt K H4 (prPy pr) (.ref u) := dt_tup (.inl (.inl e8)) (dts_cons dt_str (dts_cons (dv.mono st) dts_nil))
      exact ((hacc.mono (.same s4)).snoc d4).mono (.but b5 (s4 _ _ ha))
    · rintro D acc H3 hD hl ha ⟨s3, hacc⟩
      walk_at "rd"
      refine i_tupof_l (.inl (.inl ha)) fun u H4 nu s4 e8 => ?_
      rw [List.length_map, hsl, ← srtP_len, List.take_length] at hacc
      exact q H4 _ ((s12.trans s3).trans s4) (dt_tup (.inl (.inl e8)) (hacc.mono (.same s4)))
end
end Aw

namespace Aw
open PySem PySem.Spec PyProof.Rows L2

local macro_rules | `(tactic| walk_at "rd1") => `(tactic| first
  | ((with_reducible apply i_var); exact rfl)
  | with_reducible refine i_c ?_
  | with_reducible refine i_op ?_
  | with_reducible refine i_un ?_
  | with_reducible refine i_test ?_
  | with_reducible refine i_tB ?_
  | with_reducible refine i_bl ?_
  | with_reducible refine i_and ?_
  | with_reducible refine i_or ?_
  | with_reducible refine i_not ?_
  | with_reducible refine i_andV ?_
  | with_reducible refine i_orV ?_
  | with_reducible refine i_notV ?_
  | with_reducible refine i_if ?_
  | with_reducible refine i_chain ?_
  | with_reducible refine i_nil ?_
  | with_reducible refine i_cons ?_
  | with_reducible refine i_tup ?_
  | with_reducible refine i_lst ?_
  | with_reducible refine i_cb ?_
  | with_reducible refine i_call ?_
  | with_reducible refine i_bm ?_
  | with_reducible refine i_m1 ?_
  | with_reducible refine i_m0 ?_
  | with_reducible refine i_exstr ?_
  | with_reducible refine i_sl ?_
  | with_reducible refine i_nopart ?_
  | with_reducible refine i_part ?_
  | with_reducible refine i_int ?_
  | with_reducible refine i_seq ?_
  | with_reducible refine i_next ?_
  | with_reducible refine i_asg ?_
  | with_reducible refine i_gname ?_
  | with_reducible refine i_ret ?_
  | with_reducible refine i_retN ?_
  | with_reducible refine i_drop ?_
  | with_reducible refine i_ifS ?_
  | with_reducible refine i_break ?_
  | with_reducible refine i_cont ?_
  | ((with_reducible apply i_aug); exact rfl)
  | with_reducible refine i_add_i ?_
  | with_reducible refine i_sub ?_
  | with_reducible refine i_neg ?_
  | with_reducible refine i_ipadd_i ?_
  | with_reducible refine i_ip ?_
  | with_reducible refine i_lt ?_
  | with_reducible refine i_le ?_
  | with_reducible refine i_gt ?_
  | with_reducible refine i_ge ?_
  | with_reducible refine i_lt_s ?_
  | with_reducible refine i_le_s ?_
  | with_reducible refine i_gt_s ?_
  | with_reducible refine i_ge_s ?_
  | with_reducible refine i_isN ?_
  | with_reducible refine i_notN ?_
  | with_reducible refine i_in_c ?_
  | with_reducible refine i_nin_c ?_
  | with_reducible refine i_gsub ?_
  | with_reducible refine i_gcons ?_
  | with_reducible refine i_gnil ?_
  | with_reducible refine i_iList ?_
  | with_reducible refine i_iTup ?_
  | with_reducible refine i_iStr ?_
  | with_reducible refine i_iRng1 ?_
  | with_reducible refine i_lc ?_
  | with_reducible refine i_for ?_
  | with_reducible refine i_yes ?_
  | with_reducible refine i_repl ?_
  | with_reducible refine i_meth ?_
  | with_reducible refine i_fld ?_
  | with_reducible refine i_sfld ?_
  | with_reducible refine i_din ?_
  | with_reducible refine i_dnin ?_
  | with_reducible refine i_dget ?_
  | with_reducible refine i_dput ?_
  | with_reducible refine i_joined ?_
  | with_reducible refine i_callS ?_
  | with_reducible refine i_xf ?_
  | with_reducible refine i_revL ?_
  | with_reducible refine i_items ?_
  | with_reducible refine i_stepL ?_
  | with_reducible refine i_make ?_
  | with_reducible refine i_fmt ?_
  | with_reducible refine i_jcons ?_
  | with_reducible refine i_jnil ?_
  | with_reducible refine i_iEnum ?_
  | with_reducible refine iteT ?_
  | with_reducible refine iteF ?_
  | with_reducible refine iteNT ?_
  | with_reducible refine iteNF ?_
  | ((with_reducible refine i_len_s ?_ ?_); (first | assumption | exact szl (by assumption)))
  | ((with_reducible refine i_sl_s ?_ ?_); (first | assumption | exact szl (by assumption)))
  | with_reducible refine i_int_b ?_
  | with_reducible refine i_abs ?_
  | with_reducible refine i_min2 ?_
  | with_reducible refine i_eq rfl ?_
  | with_reducible refine i_ne rfl ?_)
local macro_rules | `(tactic| walk_at "rd") => `(tactic| repeat walk_at "rd1")

abbrev s_box_in : Stmt := topS 25
theorem sc_box_in : FnScope ["word"] ["word"] (defScope s_box_in) := ⟨rfl, rfl, rfl, by decide +kernel, rfl, by decide +kernel, by decide +kernel⟩
abbrev s_line_number_in : Stmt := topS 26
theorem sc_line_number_in : FnScope ["word", "many", "sign"] ["word", "many"] (defScope s_line_number_in) := ⟨rfl, rfl, rfl, by decide +kernel, rfl, by decide +kernel, by decide +kernel⟩
abbrev s_text_line : Stmt := topS 27
theorem sc_text_line : FnScope ["line", "box"] ["line"] (defScope s_text_line) := ⟨rfl, rfl, rfl, by decide +kernel, rfl, by decide +kernel, by decide +kernel⟩
abbrev s_line_row : Stmt := topS 28
theorem sc_line_row : FnScope ["line", "many", "words", "form", "parts", "k"] ["line", "many"] (defScope s_line_row) := ⟨rfl, rfl, rfl, by decide +kernel, rfl, by decide +kernel, by decide +kernel⟩
section
variable {P : Program} {w : World} {K : PySem.W.Frag} {mg : Str → Option Value} {base : Heap}
def spBoxIn : Sp := fun vs H Q _ => ∃ z : Str, vs = [.str z] ∧ z.length ≤ 100000 ∧ Q (optS (isBox z.cps.toList) z) H
theorem one_of {z : Str} (h : z.length = 1) : ∃ c, z = ⟨#[c]⟩ := by
  obtain ⟨l⟩ := z
  obtain ⟨l⟩ := l
  match l, h with
  | [c], _ => exact ⟨c, rfl⟩
theorem box_mem (c : Nat) : decide (c ∈ (Str.ofString "abcdefgh").cps.toList) = isBox [c] := by
  show decide (c ∈ [97, 98, 99, 100, 101, 102, 103, 104]) = _
  unfold isBox
  rw [Bool.eq_iff_iff]
  simp only [List.mem_cons, List.not_mem_nil, or_false, decide_eq_true_eq, Bool.and_eq_true]
  omega
theorem ok_box_in (D : Df K mg "box_in" "box_in" s_box_in ["word"]) (B : NoB mg) (g_BOXES_rules : GV mg "BOXES_rules" (.str "abcdefgh")) : Cal P w K mg base CX0 "box_in" ["word"] 1 spBoxIn := by
  refine D.cal fun f fd F => F.ok sc_box_in (fun vs H Q E h => ?_) (fun cdv A outer s H vs Q E hr h => ?_)
  · obtain ⟨_, rfl, _⟩ := h
    rfl
  · obtain ⟨z, rfl, hl, q⟩ := h
    refine ⟨_, (pss_cons (ps_if (PW.pt (pw_and (pt_cmpR (op_eqU K hr.units) (pe_callB (call_lenU K) (by rfl) B.m_len (by decide +kernel) (pa_cons (pv 0) pa_nil)) pe_int (nomark _)) (pw_and1 (pt_cmpR (op_inU K) (pv 0) (pe_gv (by rfl) g_BOXES_rules) (by with_unfolding_all rfl))))) (pss_one (ps_ret (pv 0))) pss_nil)
      (pss_one (ps_ret pe_non))), ?_⟩
    walk_at "rd"
    rw [decI]
    by_cases h1 : z.length = 1
    · obtain ⟨c, rfl⟩ := one_of h1
      rw [decide_eq_true (by exact_mod_cast h1)]
      walk_at "rd"
      rw [box_mem]
      cases hb : isBox [c] with
      | true =>
        walk_at "rd"
        have q : Q (optS (isBox [c]) ⟨#[c]⟩) H := q
        rw [hb] at q
        exact q
      | false =>
        walk_at "rd"
        have q : Q (optS (isBox [c]) ⟨#[c]⟩) H := q
        rw [hb] at q
        exact q
    · rw [decide_eq_false (by omega : ¬ ((z.length : Int) = 1))]
      walk_at "rd"
      have hb : isBox z.cps.toList = false := by
        match e : z.cps.toList with
        | [] => rfl
        | [c] => exact absurd (by rw [← len_list, e]; rfl) h1
        | _ :: _ :: _ => rfl
      rw [hb] at q
      exact q
def spLineNum : Sp := fun vs H Q _ => ∃ (z : Str) (m : Nat), vs = [.str z, .int (m : Nat)] ∧ z.length ≤ 600 ∧ Q (optN (numD z.cps.toList m)) H
theorem dg_mem (c : Nat) : decide (c ∈ (Str.ofString "0123456789").cps.toList) = dgC c := by
  show decide (c ∈ [48, 49, 50, 51, 52, 53, 54, 55, 56, 57]) = _
  unfold dgC
  rw [Bool.eq_iff_iff]
  simp only [List.mem_cons, List.not_mem_nil, or_false, decide_eq_true_eq, Bool.and_eq_true]
  omega
theorem ok_line_num (D : Df K mg "line_number_in" "line_number_in" s_line_number_in ["word", "many"]) (B : NoB mg) (g_FIGURES : GV mg "FIGURES" (.str "0123456789")) : Cal P w K mg base CX0 "line_number_in" ["word", "many"] 1 spLineNum := by
  refine D.cal fun f fd F => F.ok sc_line_number_in (fun vs H Q E h => ?_) (fun cdv A outer s H vs Q E hr h => ?_)
  · obtain ⟨_, _, rfl, _⟩ := h
    rfl
  · obtain ⟨z, m, rfl, hl, q⟩ := h
    refine ⟨_, (pss_cons (ps_if (PW.pt (pw_or (pt_cmpR (op_eqU K hr.units) (pv 0) pe_str (nomark _)) (pw_or1 (pt_cmpR (op_eqU K hr.units) (pe_ix (ix_U K) (pv 0) pe_int (fun _ _ => rfl)) pe_str (nomark _))))) (pss_one (ps_ret pe_non)) pss_nil)
      (pss_cons (ps_for PassesOwn.never rfl (pi_str (pv 0)) (pg_name (i := 2) sc_line_number_in.nd rfl (.inl rfl)) (pss_one (ps_if (pt_cmpR (op_ninU K) (pv 2) (pe_gv (by rfl) g_FIGURES) (by with_unfolding_all rfl)) (pss_one (ps_ret pe_non)) pss_nil)))
      (pss_cons (ps_if (pt_cmpR op_gtU (pe_callTy call_intT (by rfl) B.m_int (by decide +kernel) (pa_cons (pv 0) pa_nil)) (pv 1) (nomark _)) (pss_one (ps_ret pe_non)) pss_nil)
      (pss_one (ps_ret (pe_callTy call_intT (by rfl) B.m_int (by decide +kernel) (pa_cons (pv 0) pa_nil))))))), ?_⟩
    walk_at "rd"
    rw [decS]
    by_cases h0 : z.cps.toList = []
    · have e : z = Str.ofString "" := S_ext h0
      rw [decide_eq_true e]
      walk_at "rd"
      unfold numD at q
      rw [if_pos (.inl h0)] at q
      exact q
    · rw [decide_eq_false (fun e => h0 (by rw [e]; rfl) : ¬ z = Str.ofString "")]
      walk_at "rd"
      obtain ⟨c, r, hcr⟩ : ∃ c r, z.cps.toList = c :: r := by
        cases e : z.cps.toList with
        | nil => exact absurd e h0
        | cons c r => exact ⟨c, r, rfl⟩
      refine i_ix_s (szl (by omega)) (atI_nat (j := 0) (v := c) (by rw [hcr]; rfl)) ?_
      walk_at "rd"
      rw [dS (z := "0") (d := 48) rfl]
      by_cases h1 : c = 48
      · rw [decide_eq_true h1]
        walk_at "rd"
        unfold numD at q
        rw [if_pos (.inr (by rw [hcr, h1]; rfl))] at q
        exact q
      · rw [decide_eq_false h1]
        walk_at "rd"
        have hn : ¬ (z.cps.toList = [] ∨ z.cps.toList.head? = some 48) := by
          rintro (h | h)
          · exact h0 h
          · rw [hcr] at h; exact h1 (Option.some.inj h)
        unfold numD at q
        rw [if_neg hn] at q
        refine f_str (fun i σ H1 => ∃ y, σ = [some (.str z), some (.int (m : Nat)), y] ∧ H1 = H ∧ (z.cps.toList.take i).all dgC = true) ⟨none, rfl, rfl, by simp⟩ ?_ ?_
        · rintro i d σ H1 hd ⟨y, rfl, rfl, ha⟩
          walk_at "rd"
          rw [dg_mem]
          cases hdg : dgC d with
          | true =>
            walk_at "rd"
            exact ⟨_, rfl, rfl, by rw [take_snoc hd, List.all_append, ha]; simp [hdg]⟩
          | false =>
            walk_at "rd"
            have : z.cps.toList.all dgC = false := by
              rw [← Bool.not_eq_true]
              intro e
              have := (List.all_eq_true.mp e) d (List.mem_of_getElem? hd)
              rw [hdg] at this; cases this
            rw [this] at q
            exact q
        · rintro σ H1 ⟨y, rfl, rfl, ha⟩
          rw [← len_list, List.take_length] at ha
          rw [if_pos ha] at q
          have hdig : PySem.NumText.AllDigits z.cps.toList := by
            intro d hd
            have := (List.all_eq_true.mp ha) d hd
            unfold dgC at this
            simp only [Bool.and_eq_true, decide_eq_true_eq] at this
            exact this
          have hr : PySem.intText? z = some ((PySem.NumText.digitsVal z.cps.toList : Nat) : Int) := PySem.intText_digits hdig h0 (by omega)
          walk_at "rd"
          refine ⟨z, _, rfl, hr, by omega, ?_⟩
          walk_at "rd"
          generalize PySem.NumText.digitsVal z.cps.toList = v at q hr ⊢
          by_cases hv : v > m
          · rw [decide_eq_true (by omega : (v : Int) > (m : Int))]
            rw [if_pos hv] at q
            walk_at "rd"
            exact q
          · rw [decide_eq_false (by omega : ¬ (v : Int) > (m : Int))]
            rw [if_neg hv] at q
            walk_at "rd"
            refine ⟨z, _, rfl, hr, by omega, ?_⟩
            exact q
def optR (K : PySem.W.Frag) (H : Hp) : Option Row → V → Prop
  | some r, v => Dt K H r.py v
  | none, v => v = .non
def spTextLine (K : PySem.W.Frag) : Sp := fun vs H Q _ => ∃ z : Str, vs = [.str z] ∧ z.length ≤ 600 ∧ ∀ H' v, Same H H' → optR K H' (textRow z.cps.toList) v → Q v H'
theorem cut_mid {z : Str} {a b : Nat} : cutS z (some (a : Int)) (some (b : Int)) = S ((z.cps.toList.drop a).take (b - a)) := by
  apply S_ext
  show ((z.cps.toList.drop (HT.sIx z.length 0 (some (a : Int)))).take (HT.sIx z.length z.length (some (b : Int)) - HT.sIx z.length 0 (some (a : Int)))) = (z.cps.toList.drop a).take (b - a)
  rw [HT.sIx_nat, HT.sIx_nat, ← len_list]
  generalize z.cps.toList = l
  by_cases h : a ≤ l.length
  · rw [Nat.min_eq_left h]
    by_cases k : b ≤ l.length
    · rw [Nat.min_eq_left k]
    · rw [Nat.min_eq_right (by omega), List.take_of_length_le (by rw [List.length_drop]; exact Nat.le_refl _), List.take_of_length_le (by rw [List.length_drop]; omega)]
  · have e1 : min a l.length = l.length := Nat.min_eq_right (by omega)
    rw [e1, List.drop_length, List.drop_of_length_le (by omega)]
    simp
theorem cut_from {z : Str} {a : Nat} : cutS z (some (a : Int)) none = S (z.cps.toList.drop a) := by
  apply S_ext
  show ((z.cps.toList.drop (HT.sIx z.length 0 (some (a : Int)))).take (HT.sIx z.length z.length none - HT.sIx z.length 0 (some (a : Int)))) = z.cps.toList.drop a
  rw [HT.sIx_nat, HT.sIx_none, ← len_list]
  generalize z.cps.toList = l
  by_cases h : a ≤ l.length
  · rw [Nat.min_eq_left h, List.take_of_length_le (by rw [List.length_drop]; exact Nat.le_refl _)]
  · rw [Nat.min_eq_right (by omega), List.drop_length, List.drop_of_length_le (by omega)]
    simp
theorem cut_to {z : Str} {b : Nat} : cutS z none (some (b : Int)) = S (z.cps.toList.take b) := by
  apply S_ext
  show ((z.cps.toList.drop (HT.sIx z.length 0 none)).take (HT.sIx z.length z.length (some (b : Int)) - HT.sIx z.length 0 none)) = z.cps.toList.take b
  rw [HT.sIx_nat, HT.sIx_none, List.drop_zero, Nat.sub_zero, ← len_list]
  generalize z.cps.toList = l
  by_cases k : b ≤ l.length
  · rw [Nat.min_eq_left k]
  · rw [Nat.min_eq_right (by omega), List.take_length, List.take_of_length_le (by omega)]
theorem S_dec {l m : List Nat} {z : Str} (h : z = S m) : decide (S l = z) = decide (l = m) := by
  rw [h]
  by_cases e : l = m
  · rw [e, decide_eq_true rfl, decide_eq_true rfl]
  · rw [decide_eq_false e, decide_eq_false fun q => e (S_inj q)]
theorem ok_text_line (D : Df K mg "text_line" "text_line" s_text_line ["line"]) (C_box_in : Cal P w K mg base CX0 "box_in" ["word"] 1 spBoxIn) : Cal P w K mg base CX0 "text_line" ["line"] 2 (spTextLine K) := by
  refine D.cal fun f fd F => F.ok sc_text_line (fun vs H Q E h => ?_) (fun cdv A outer s H vs Q E hr h => ?_)
  · obtain ⟨_, rfl, _⟩ := h
    rfl
  · obtain ⟨z, rfl, hl, q⟩ := h
    refine ⟨_, (pss_cons (ps_set (i := 1) sc_text_line.nd rfl (.inl rfl) (pe_cal C_box_in hr (by rfl) (pa_cons (pe_slice (sl_U K) (pv 0) (po_some pe_int) (po_some pe_int)) pa_nil)))
      (pss_cons (ps_if (PW.pt (pw_or (pt_cmpR op_isNo (pv 1) pe_non (nomark _)) (pw_or1 (pt_cmpR (op_neU K hr.units) (pe_slice (sl_U K) (pv 0) (po_some pe_int) (po_some pe_int)) pe_str (nomark _))))) (pss_one (ps_ret pe_non)) pss_nil)
      (pss_one (ps_ret (pe_tup (pa_cons pe_str (pa_cons (pe_tup (pa_cons (pv 1) (pa_cons (pe_slice (sl_U K) (pv 0) (po_some pe_int) po_none) pa_nil))) pa_nil))))))), ?_⟩
    have hl' : z.length ≤ 100000 := by omega
    walk_at "rd"
    have c56 : cutS z (some 5) (some 6) = S ((z.cps.toList.drop 5).take (6 - 5)) := cut_mid (a := 5) (b := 6)
    have c67 : cutS z (some 6) (some 7) = S ((z.cps.toList.drop 6).take (7 - 6)) := cut_mid (a := 6) (b := 7)
    have c7 : cutS z (some 7) none = S (z.cps.toList.drop 7) := cut_from (a := 7)
    rw [c56]
    have hb1 : (S ((z.cps.toList.drop 5).take (6 - 5))).length ≤ 100000 := by rw [S_len, List.length_take]; omega
    refine ⟨_, rfl, hb1, ?_⟩
    rw [S_list]
    walk_at "rd"
    unfold textRow at q
    cases hbx : isBox ((z.cps.toList.drop 5).take (6 - 5)) with
    | false =>
      rw [show optS false (S ((z.cps.toList.drop 5).take (6 - 5))) = V.non from rfl, decide_eq_true rfl]
      walk_at "rd"
      refine q H _ (.refl H) ?_
      have hbx : isBox ((z.cps.toList.drop 5).take 1) = false := hbx
      rw [hbx, if_neg (by simp)]
      rfl
    | true =>
      rw [show optS true (S ((z.cps.toList.drop 5).take (6 - 5))) = V.str (S ((z.cps.toList.drop 5).take (6 - 5))) from rfl, decide_eq_false (fun e => by cases e)]
      walk_at "rd"
      rw [c67, decS, S_dec (m := [32]) (z := Str.ofString " ") rfl]
      have hbx : isBox ((z.cps.toList.drop 5).take 1) = true := hbx
      by_cases h32 : (z.cps.toList.drop 6).take (7 - 6) = [32]
      · rw [decide_eq_true h32]
        walk_at "rd"
        rw [c7]
        refine i_new_t (by show 2 ≤ sizeLine; decide) fun t1 H1 n1 s1 e1 => ?_
        walk_at "rd"
        refine i_new_t (by show 2 ≤ sizeLine; decide) fun t2 H2 n2 s2 e2 => ?_
        refine q H2 _ (s1.trans s2) ?_
        rw [if_pos ⟨hbx, h32⟩]
        exact dt_tup (.inl (.inl e2)) (dts_cons dt_str (dts_cons (dt_tup (.inl (.inl (s2 _ _ e1))) (dts_cons dt_str (dts_cons dt_str dts_nil))) dts_nil))
      · rw [decide_eq_false h32]
        walk_at "rd"
        refine q H _ (.refl H) ?_
        rw [if_neg (fun h => h32 h.2)]
        rfl
def spLineRow (K : PySem.W.Frag) : Sp := fun vs H Q _ => ∃ (v : V) (d : PyData) (m : Nat), vs = [v, .int (m : Nat)] ∧ Dt K H d v ∧ good d = true ∧ m ≤ 100 ∧
  ∀ H' u, Same H H' → optR K H' (match d with | .str z => lineRow z m | _ => none) u → Q u H'
theorem ok_line_row {fa : Addr} (D : Df K mg "line_row" "line_row" s_line_row ["line", "many"]) (B : NoB mg) (g_LINE_FORMS : GV mg "LINE_FORMS" (.ref fa)) (kd : KDk K w fa kforms) (C_box_in : Cal P w K mg base CX0 "box_in" ["word"] 1 spBoxIn) (C_line_number_in : Cal P w K mg base CX0 "line_number_in" ["word", "many"] 1 spLineNum)
    (C_text_line : Cal P w K mg base CX0 "text_line" ["line"] 2 (spTextLine K)) : Cal P w K mg base CX0 "line_row" ["line", "many"] 3 (spLineRow K) := by
  refine D.cal fun f fd F => F.ok sc_line_row (fun vs H Q E h => ?_) (fun cdv A outer s H vs Q E hr h => ?_)
  · obtain ⟨_, _, _, rfl, _⟩ := h
    rfl
  · obtain ⟨v, d, m, rfl, hd, hg, hm, q⟩ := h
    refine ⟨_, (pss_cons (ps_if (pt_not (pt_val (pe_callB (call_isiU K) (by rfl) B.m_isinstance (by decide +kernel) (pa_cons (pv 0) (pa_cons (pe_ty (T := "str") (by rfl) B.m_str (by decide +kernel)) pa_nil))))) (pss_one (ps_ret pe_non)) pss_nil)
      (pss_cons (ps_if (pt_cmpR (op_eqU K hr.units) (pe_slice (sl_U K) (pv 0) po_none (po_some pe_int)) pe_str (nomark _)) (pss_one (ps_ret (pe_cal C_text_line hr (by rfl) (pa_cons (pv 0) pa_nil)))) pss_nil)
      (pss_cons (ps_set (i := 2) sc_line_row.nd rfl (.inl rfl) (pe_splitU (pv 0) pe_str))
      (pss_cons (ps_set (i := 3) sc_line_row.nd rfl (.inl rfl) (pe_kget2 (pe_gv (by rfl) g_LINE_FORMS) (pe_ix (ix_U K) (pv 2) pe_int (fun _ _ => rfl)) pe_non ⟨rfl, rfl, rfl, rfl⟩))
      (pss_cons (ps_if (PW.pt (pw_or (pt_cmpR op_isNo (pv 3) pe_non (nomark _)) (pw_or1 (pt_cmpR (op_neU K hr.units) (pe_callB (call_lenU K) (by rfl) B.m_len (by decide +kernel) (pa_cons (pv 2) pa_nil)) (pe_op (op_addU K) (pe_callB (call_lenU K) (by rfl) B.m_len (by decide +kernel) (pa_cons (pv 3) pa_nil)) pe_int) (nomark _))))) (pss_one (ps_ret pe_non)) pss_nil)
      (pss_cons (ps_set (i := 4) sc_line_row.nd rfl (.inl rfl) (pe_lst pa_nil))
      (pss_cons (ps_for PassesOwn.never rfl (pi_range1 (by rfl) B.m_range (pa_cons (pe_callB (call_lenU K) (by rfl) B.m_len (by decide +kernel) (pa_cons (pv 3) pa_nil)) pa_nil)) (pg_name (i := 5) sc_line_row.nd rfl (.inl rfl)) (pss_one (ps_if (pt_cmpR (op_eqU K hr.units) (pe_ix (ix_U K) (pv 3) (pv 5) (fun _ _ => rfl)) pe_str (nomark _)) (pss_one (ps_expr (pe_bmU K PySem.F.plainAttrs_list PySem.F.slot_list_append PySem.F.type_list_append mt_append (pv 4) (pa_cons (pe_cal C_box_in hr (by rfl) (pa_cons (pe_ix (ix_U K) (pv 2) (pe_op (op_addU K) (pv 5) pe_int) (fun _ _ => rfl)) pa_nil)) pa_nil)))) (pss_one (ps_expr (pe_bmU K PySem.F.plainAttrs_list PySem.F.slot_list_append PySem.F.type_list_append mt_append (pv 4) (pa_cons (pe_cal C_line_number_in hr (by rfl) (pa_cons (pe_ix (ix_U K) (pv 2) (pe_op (op_addU K) (pv 5) pe_int) (fun _ _ => rfl)) (pa_cons (pv 1) pa_nil))) pa_nil)))))))
      (pss_cons (ps_if (pt_cmpR (op_inU K) pe_non (pv 4) (by with_unfolding_all rfl)) (pss_one (ps_ret pe_non)) pss_nil)
      (pss_one (ps_ret (pe_tup (pa_cons (pe_ix (ix_U K) (pv 2) pe_int (fun _ _ => rfl)) (pa_cons (pe_callTy (call_tupU K) (by rfl) B.m_tuple (by decide +kernel) (pa_cons (pv 4) pa_nil)) pa_nil))))))))))))), ?_⟩
    walk_at "rd"
    rcases good_cases hg with ⟨z, rfl, hl, hp⟩ | ⟨ds, rfl, hl, hgs⟩
    · have e := hd.str
      subst e
      refine i_isi (.base (.str z)) (b := true) (by decide +kernel) ?_
      have hl' : z.length ≤ 100000 := by omega
      walk_at "rd"
      have c5 : cutS z none (some 5) = S (z.cps.toList.take 5) := cut_to (b := 5)
      rw [c5, decS, S_dec (m := [116, 101, 120, 116, 32]) (z := Str.ofString "text ") rfl]
      have q : ∀ H' u, Same H H' → optR K H' (lineRow z m) u → Q u H' := q
      unfold lineRow at q
      by_cases ht : z.cps.toList.take 5 = [116, 101, 120, 116, 32]
      · rw [decide_eq_true ht]
        walk_at "rd"
        rw [if_pos ht] at q
        exact ⟨z, rfl, by omega, fun H1 u s1 hu => q H1 u s1 hu⟩
      · rw [decide_eq_false ht]
        rw [if_neg ht] at q
        walk_at "rd"
        obtain ⟨ps, hne, hsp, hpl, hpz⟩ := split_parts 32 z
        refine i_split (by decide) (szl (by omega)) fun l1 H1 n1 s1 e1 => ?_
        have hsp' : Txt.split z (Str.ofString " ") = ps.map S := hsp
        rw [hsp'] at e1 q
        cases ps with
        | nil => exact absurd rfl hne
        | cons p0 ps =>
        walk_at "rd"
        refine ⟨fa, kforms, rfl, kd, ?_⟩
        walk_at "rd"
        refine i_ix_l (.inl (.inl e1)) (atI_nat (j := 0) (v := .str (S p0)) rfl) ?_
        walk_at "rd"
        refine ⟨S p0, rfl, ?_⟩
        have hlk : kforms.lookup (S p0) = (forms.lookup (S p0)).map V.str := lookup_map V.str (S p0) forms
        rw [hlk]
        have q : ∀ H' u, Same H H' → optR K H' (match forms.lookup (S p0) with | none => none | some fm => if (ps.map S).length = fm.length then (partsD fm.cps.toList (ps.map S) m).map fun r => (S p0, r) else none) u → Q u H' := q
        cases hf : forms.lookup (S p0) with
        | none =>
          walk_at "rd"
          rw [decide_eq_true (p := (Option.map V.str none).getD V.non = V.non) rfl]
          walk_at "rd"
          rw [hf] at q
          exact q H1 _ s1 rfl
        | some fm =>
          rw [hf] at q
          have q : ∀ H' u, Same H H' → optR K H' (if (ps.map S).length = fm.length then (partsD fm.cps.toList (ps.map S) m).map fun r => (S p0, r) else none) u → Q u H' := q
          have hf3 := forms_ok _ (lookup_mem hf)
          have hf3 : fm.length ≤ 3 := hf3
          have hff : fm.length ≤ 100000 := by omega
          walk_at "rd"
          rw [show (Option.map V.str (some fm)).getD V.non = V.str fm from rfl, decide_eq_false (show ¬ V.str fm = V.non from fun e => by cases e)]
          walk_at "rd"
          refine i_len_l (.inl (.inl e1)) ?_
          walk_at "rd"
          rw [decI, List.length_map, List.length_map, List.length_cons]
          by_cases hlen : (ps.map S).length = fm.length
          · rw [if_pos hlen] at q
            rw [List.length_map] at hlen
            rw [decide_eq_true (by omega : ((ps.length + 1 : Nat) : Int) = (fm.length : Int) + 1)]
            walk_at "rd"
            refine i_new_l (by exact Nat.zero_le _) fun l2 H2 n2 s2 e2 => ?_
            walk_at "rd"
            have s02 := s1.trans s2
            refine f_range (n := fm.length) (by omega) (fun i σ H3 => ∃ y : Option V, σ = [some (.str z), some (.int (m : Nat)), some (.ref l1), some (.str fm), some (.ref l2), y] ∧ Same H H3 ∧ H3 l1 = some (.lst (((p0 :: ps).map S).map V.str)) ∧ H3 l2 = some (.lst ((List.zipWith (partV m) fm.cps.toList (ps.map S)).take i))) ?_ ?_ ?_ rfl
            · exact ⟨none, rfl, s02, s2 _ _ e1, e2⟩
            · rintro i σ H3 hi ⟨y, rfl, s3, e3, e4⟩
              walk_at "rd"
              have hfi : fm.cps.toList[i]? = some (fm.cps.toList[i]'(by rw [len_list]; exact hi)) := List.getElem?_eq_getElem _
              generalize (fm.cps.toList[i]'(by rw [len_list]; exact hi)) = fc at hfi
              have hpi : ps[i]? = some (ps[i]'(by omega)) := List.getElem?_eq_getElem _
              have hpz' : (ps[i]'(by omega)).length ≤ z.length := hpz _ (List.mem_cons_of_mem _ (List.getElem_mem _))
              generalize (ps[i]'(by omega)) = pi at hpi hpz'
              have hz : (List.zipWith (partV m) fm.cps.toList (ps.map S))[i]? = some (partV m fc (S pi)) := by
                rw [List.getElem?_zipWith, hfi, List.getElem?_map, hpi]
                rfl
              have hzl : ((List.zipWith (partV m) fm.cps.toList (ps.map S)).take i).length ≤ 100000 := by rw [List.length_take]; omega
              have hix : atI (((p0 :: ps).map S).map V.str) ((i : Int) + 1) = some (V.str (S pi)) := by
                have : ((i : Int) + 1) = ((i + 1 : Nat) : Int) := by omega
                rw [this]
                refine atI_nat ?_
                rw [List.map_cons, List.map_cons, List.getElem?_cons_succ, List.getElem?_map, List.getElem?_map, hpi]
                rfl
              refine i_ix_s (szl hff) (atI_nat hfi) ?_
              walk_at "rd"
              rw [dS (z := "b") (d := 98) rfl]
              have fin : ∀ u, u = partV m fc (S pi) → ∀ H4, Bt l2 H3 H4 → H4 l2 = some (.lst ((List.zipWith (partV m) fm.cps.toList (ps.map S)).take i ++ [u])) → Same H H4 ∧ H4 l1 = some (.lst (((p0 :: ps).map S).map V.str)) ∧ H4 l2 = some (.lst ((List.zipWith (partV m) fm.cps.toList (ps.map S)).take (i + 1))) := by
                intro u hu H4 b4 e5
                refine ⟨Same.but s3 (none_back s1 n2) b4, b4 _ _ (ne_of_none e1 n2) e3, ?_⟩
                rw [e5, take_snoc hz, hu]
              by_cases hb : fc = 98
              · rw [decide_eq_true hb]
                walk_at "rd"
                refine i_tyl e4 ?_
                walk_at "rd"
                refine i_ix_l (.inl (.inl e3)) hix ?_
                walk_at "rd"
                refine ⟨S pi, rfl, by rw [S_len]; omega, ?_⟩
                walk_at "rd"
                refine i_append e4 (szlt hzl) fun H4 b4 e5 => ?_
                walk_at "rd"
                exact ⟨_, rfl, fin _ (by unfold partV; rw [if_pos hb]) H4 b4 e5⟩
              · rw [decide_eq_false hb]
                walk_at "rd"
                refine i_tyl e4 ?_
                walk_at "rd"
                refine i_ix_l (.inl (.inl e3)) hix ?_
                walk_at "rd"
                refine ⟨S pi, m, rfl, by rw [S_len]; omega, ?_⟩
                walk_at "rd"
                refine i_append e4 (szlt hzl) fun H4 b4 e5 => ?_
                walk_at "rd"
                exact ⟨_, rfl, fin _ (by unfold partV; rw [if_neg hb]) H4 b4 e5⟩
            · rintro σ H3 ⟨y, rfl, s3, e3, e4⟩
              have hzw : (List.zipWith (partV m) fm.cps.toList (ps.map S)).length = fm.length := by rw [List.length_zipWith, len_list, List.length_map]; omega
              rw [List.take_of_length_le (by omega)] at e4
              have hfl : (List.zipWith (partV m) fm.cps.toList (ps.map S)).all flatV = true := by
                rw [List.all_eq_true]
                intro x hx
                obtain ⟨j, hj, rfl⟩ := List.mem_iff_getElem.mp hx
                rw [List.getElem_zipWith]
                exact partV_flat
              walk_at "rd"
              refine i_in_l (.inl (.inl e4)) rfl hfl ?_
              rw [inNon _ hfl]
              rcases partsV (K := K) (H := H3) (m := m) (fs := fm.cps.toList) (ps := ps.map S) (by rw [len_list, List.length_map]; omega) with ⟨ds, k1, k2, k3⟩ | ⟨k1, k2⟩
              · rw [decide_eq_false k3]
                rw [k1] at q
                walk_at "rd"
                refine i_ix_l (.inl (.inl e3)) (atI_nat (j := 0) (v := .str (S p0)) rfl) ?_
                walk_at "rd"
                refine i_tupof_l (.inl (.inl e4)) fun t4 H4 n4 s4 e5 => ?_
                walk_at "rd"
                refine i_new_t (by show 2 ≤ sizeLine; decide) fun t5 H5 n5 s5 e6 => ?_
                refine q H5 _ (s3.trans (s4.trans s5)) ?_
                exact dt_tup (.inl (.inl e6)) (dts_cons dt_str (dts_cons (dt_tup (.inl (.inl (s5 _ _ e5))) (k2.mono (.same (s4.trans s5)))) dts_nil))
              · rw [decide_eq_true k2]
                rw [k1] at q
                walk_at "rd"
                exact q H3 _ s3 rfl
          · rw [if_neg hlen] at q
            rw [List.length_map] at hlen
            rw [decide_eq_false (by omega : ¬ ((ps.length + 1 : Nat) : Int) = (fm.length : Int) + 1)]
            walk_at "rd"
            exact q H1 _ s1 rfl
    · obtain ⟨a, xs, rfl, hs, hq⟩ := hd.tup
      refine i_isi (ty_sq hs) (b := false) (by decide +kernel) ?_
      walk_at "rd"
      exact q H _ (.refl H) rfl
end
end Aw

/-! enumerate of a tuple -/
namespace AwE
open PySem PySem.Calls PySem.W PyProof.Rows
set_option maxHeartbeats 1000000 in
theorem meets_enum1 {v : Value} {o : Obj} {H : Heap → Prop} (B : Begins v o H) :
    Meets (Builtin.«enumerate.__new__» ⟨[.type "enumerate", v], []⟩) (fun _ R s => H s.heap ∧
      R (.ok (.ret (.ref (s.heap.push o).objs.size))) { s with heap := (s.heap.push o).push { cls := .type "enumerate", data := .fields #[.none, .bool false, .ref s.heap.objs.size, rawInt 0, .none, .none] } }) :=
  .of_wp fun prog w A R s h => by
    obtain ⟨hp, g, d, tk, os⟩ := s; obtain ⟨h1, h⟩ := h
    have hsub := sub_enumerate
    have q1 : ∀ {A' : Around} {E : Value → Shared → Prop} {Q : Value → Shared → Prop}, Q (.ref hp.objs.size) ⟨hp.push o, g, d, tk, os⟩ → wpAny (model prog w) A' (pyIter v) Q E ⟨hp, g, d, tk, os⟩ :=
      fun q => B.iter prog w _ _ ⟨hp, g, d, tk, os⟩ _ h1 q
    wp_walk using q1
    refine wpAny_stack_any fun st => wpAny_pure ?_
    split
    · rename_i c _ _ _ _ _
      cases (c == Value.type "enumerate")
      · wp_walk using q1
        exact ⟨_, rfl, h⟩
      · wp_walk using q1
        exact ⟨_, rfl, h⟩
    · wp_walk using q1
      exact ⟨_, rfl, h⟩
section
variable {prog : Program} {w : World} {A : Around} {E : Value → Shared → Prop} {s : Shared}
theorem enum1_begins {v : Value} {o : Obj} {H : Heap → Prop} {Q : Value → Shared → Prop} (B : Begins v o H) (h1 : H s.heap)
    (h : ∀ h', IsEnum h' (s.heap.objs.size + 1) s.heap.objs.size 0 .none → h'.get? s.heap.objs.size = some o → h'.objs.size = s.heap.objs.size + 2 →
      (∀ b o, s.heap.get? b = some o → h'.get? b = some o) → Q (.ref (s.heap.objs.size + 1)) { s with heap := h' }) :
    wpAny (model prog w) A (call (.type "enumerate") [v]) Q E s := by
  refine callType_new F.called_enumerate (by decide) (F.typeCall_enumerate_1 _) (F.newCall_enumerate_1 _) (fun obj => F.args_object_init_2 obj _) F.entry_enumerate_new
    (meets_enum1 B) ⟨h1, ?_⟩
  have hz : (s.heap.push o).objs.size = s.heap.objs.size + 1 := Heap.size_push ..
  show _ ∧ _
  rw [hz]
  have he : IsEnum ((s.heap.push o).push { cls := .type "enumerate", data := .fields #[.none, .bool false, .ref s.heap.objs.size, rawInt 0, .none, .none] }) (s.heap.objs.size + 1) s.heap.objs.size 0 .none := by
    have := Heap.get?_push_size (s.heap.push o) (o := { cls := .type "enumerate", data := .fields #[.none, .bool false, .ref s.heap.objs.size, rawInt 0, .none, .none] }) rfl
    rw [hz] at this; exact this
  exact ⟨⟨_, he, rfl⟩, h _ he (Heap.get?_push_of_some _ (Heap.get?_push_size _ B.free)) (by rw [Heap.size_push, hz]) fun b o x => Heap.get?_push_of_some _ (Heap.get?_push_of_some _ x)⟩
end
end AwE
namespace L2
open PySem PySem.Spec PyProof.Rows
def IteT (K : PySem.W.Frag) (a : Addr) : It :=
  ⟨fun i H => ∃ (xs : List V) (x : V), SqT K H a xs ∧ xs[i]? = some x, fun i H v H' => ∃ T x, v = .ref T ∧ H T = none ∧ H' = upd H T (.tup [.int (i : Nat), x]) ∧ ∀ xs, SqT K H a xs → xs[i]? = some x, fun i H => ∃ xs : List V, SqT K H a xs ∧ xs.length = i⟩
theorem turn_enumT {P : Program} {w : World} {K : PySem.W.Frag} {elts : List Expr} {kk : Nat} {tpos : Pos} (a e it : Addr) :
    Turn P w K (.Tuple elts kk tpos) (IteT K a) [e, it] e (fun i h => (∃ old, IsEnum h e it ((i : Nat) : Int) old) ∧ h.IsTupleIter it a i ∧ e ≠ it ∧ a ≠ it ∧ e ≠ a) where
  mem := by simp
  obj := fun i h st b hb => by
    obtain ⟨⟨old, he⟩, ⟨o, ho, hc, hd⟩, _⟩ := st
    have e' : b = e ∨ b = it := by simpa using hb
    rcases e' with z | z
    · rw [z]; exact ⟨_, he, fun v q => nomatch q⟩
    · rw [z]; exact ⟨o, ho, fun v q => by rw [hd] at q; cases q⟩
  keep := fun i h h' st k => let ⟨⟨old, he⟩, hi, hne⟩ := st; ⟨⟨old, k e (by simp) _ he⟩, hi.at fun o q => k it (by simp) o q, hne⟩
  item := by
    intro X hP hw hK hc i pins s σ H E I hf st hg
    subst hP hw hK
    obtain ⟨⟨old, he⟩, hit, hne, hai, hea⟩ := st
    obtain ⟨xs, x, hq, hx⟩ := hg
    obtain ⟨its, rv, p, hz⟩ := I.tuple hq
    obtain ⟨u, hu, ru⟩ := rv.get hx
    have hel : e < s.heap.objs.size := Heap.lt_size he
    have hil : it < s.heap.objs.size := by obtain ⟨_, q, _⟩ := hit; exact Heap.lt_size q
    have pt : s.heap.IsTuple a its.toArray := p
    have hlt : i < its.toArray.size := by
      have := (List.getElem?_eq_some_iff.mp hu).1
      simpa using this
    refine wpAny_pyNext_enum_itemD (Draws.tuple (A := X.A.in1) (show X.A.in1.handled = none from I.ok.hd hc) it a hai its.toArray) he ⟨hit, pt⟩ hlt hne (by simp; exact ⟨hne, hea⟩) fun y h' tk hy ho hst hT hsz hk => ?_
    have ey : y = u := by
      have : its.toArray[i]? = some u := by simpa using hu
      rw [this] at hy
      exact (Option.some.inj hy).symm
    subst ey
    refine ⟨_, rfl, wpAny_letOwnedTupleGo_enum (s := { s with heap := h', toks := tk + 1 }) ho fun h'' he' sb => ?_⟩
    have hT2 : h''.get? s.heap.objs.size = some { cls := .type "tuple", data := .seq #[.int i tk, y] } := (sb.2 _ (Nat.ne_of_gt hel)).trans hT
    have new : ObjOk X.prog X.w (upd H s.heap.objs.size (.tup [.int (i : Nat), x])) h'' s.heap.objs.size (.tup [.int (i : Nat), x]) :=
      ⟨by show 2 ≤ sizeLine; decide, [.int i tk, y], .cons ⟨_, rfl⟩ (.cons ru .nil), ⟨_, hT2, rfl, _, rfl⟩⟩
    have I1 : Inv X pins σ (upd H s.heap.objs.size (.tup [.int (i : Nat), x])) { s with heap := h'', toks := tk + 1 } :=
      I.turnedNew (ch := [e, it]) (fun b ob hb q => (sb.2 b (fun z => hb (by simp [z]))).trans (hk b ob (fun z => hb (by simp [z])) (fun z => hb (by simp [z])) q)) hf (Nat.le_refl _) new
    refine ⟨.ref s.heap.objs.size, _, I1, rfl, ⟨_, x, rfl, I.hok.fresh (Nat.le_refl _), rfl, fun ys hy => by rw [I.tuple_inj hy hq]; exact hx⟩, ⟨⟨y, ?_⟩, hst.1.at fun o q => (sb.2 it (Ne.symm hne)).trans q, hne, hai, hea⟩, fun b hb => ?_⟩
    · have e1 : ((i + 1 : Nat) : Int) = (i : Int) + 1 := by omega
      rw [e1]; exact he'
    · have hb' : b < s.heap.objs.size := by
        have e' : b = e ∨ b = it := by simpa using hb
        rcases e' with z | z
        · rw [z]; exact hel
        · rw [z]; exact hil
      rw [upd_ne (Nat.ne_of_lt hb')]
      exact (hf b hb).1
  done := by
    intro X hP hw hK hc i pins s σ H E I hf st hg
    subst hP hw hK
    obtain ⟨⟨old, he⟩, hit, hne, hai, hea⟩ := st
    obtain ⟨xs, hq, hx⟩ := hg
    obtain ⟨its, rv, p, hz⟩ := I.tuple hq
    obtain ⟨f0, f1, f2, f3, f4, f5⟩ := hf it (by simp)
    have hl := rv.length
    have pt : s.heap.IsTuple a its.toArray := p
    have ei : i = its.toArray.size := by rw [List.size_toArray]; omega
    subst ei
    exact wpAny_pyNext_enum_endD (Draws.tuple (A := X.A.in1) (show X.A.in1.handled = none from I.ok.hd hc) it a hai its.toArray) he ⟨hit, pt⟩ fun h' eb => ⟨rfl, I.turned (t' := s.toks) (fun b o hb q => eb b o hb q) f0 f1 f3 f4 f5⟩
  self := fun A i s Q E st h => let ⟨⟨_, he⟩, _⟩ := st; wpAny_pyIter_enum he h
def iEnumT (K : PySem.W.Frag) (ta : TA) : TI := fun σ H R => ta σ H fun vs H1 => ∃ a xs, vs = [.ref a] ∧ SqT K H1 a xs ∧ R (IteT K a) H1
theorem pi_enumT {X : Cx} {e : Expr} {ta : TA} {p pos tpos : Pos} {elts : List Expr} {kk : Nat} (hg : Gl X "enumerate") (hm : X.mg "enumerate" = none) (ha : PA X [e] ta) (hs : starEach [e] X.env = [(false, eval e X.env)] := by rfl) :
    PI X (.Tuple elts kk tpos) (.Call (.Name "enumerate" p) [e] [] pos) (iEnumT X.K ta) := by
  refine ⟨fun pins s σ H R I h => ?_⟩
  refine Call_ (ld_blt I hg hm boot_enumerate (PyProof.Rows.callWith_type1 (thn (ha.run pos pins s σ H _ I h) fun us s1 ⟨vs, H1, I1, r1, q1⟩ => ?_) hs rfl))
  obtain ⟨a, xs, ex, hq, q⟩ := q1
  subst ex
  cases r1 with
  | cons r rr =>
    cases rr
    cases r
    obtain ⟨its, rv, p', hz⟩ := I1.tuple hq
    have pt : s1.heap.IsTuple a its.toArray := p'
    have hal : a < s1.heap.objs.size := by obtain ⟨_, q, _⟩ := pt; exact Heap.lt_size q
    refine AwE.enum1_begins (PySem.begins_tuple a its.toArray) pt fun h' he hit hsz hk => wpAny_pyIter_enum he ?_
    have I2 : Inv X pins σ H1 { s1 with heap := h' } := I1.kept (t' := s1.toks) hk
    refine ⟨s1.heap.objs.size + 1, [s1.heap.objs.size + 1, s1.heap.objs.size], _, _, H1, rfl, I2, turn_enumT a (s1.heap.objs.size + 1) s1.heap.objs.size, ⟨⟨.none, he⟩, ⟨_, hit, rfl, rfl⟩, Nat.succ_ne_self _, Nat.ne_of_lt hal, fun z => Nat.lt_irrefl a (by rw [← z] at hal; exact absurd hal (by show ¬ (s1.heap.objs.size + 1 < s1.heap.objs.size); exact Nat.not_lt.mpr (Nat.le_succ _)))⟩, fun b hb => ?_, q⟩
    have e' : b = s1.heap.objs.size + 1 ∨ b = s1.heap.objs.size := by simpa using hb
    have hle : s1.heap.objs.size ≤ b := by
      rcases e' with z | z
      · rw [z]; exact Nat.le_add_right _ _
      · rw [z]; exact Nat.le_refl _
    exact I1.fpOk hle (I1.hok.fresh hle)
end L2
namespace Aw
open PySem PySem.Spec PyProof.Rows L2
theorem pi_enumTU {X : Cx} (K : PySem.W.Frag) {e : Expr} {ta : TA} {p pos tpos : Pos} {elts : List Expr} {kk : Nat} (hg : Gl X "enumerate") (hm : X.mg "enumerate" = none) (ha : PA X [e] ta) (h : X.K = K := by rfl) (hs : starEach [e] X.env = [(false, eval e X.env)] := by rfl) :
    PI X (.Tuple elts kk tpos) (.Call (.Name "enumerate" p) [e] [] pos) (iEnumT K ta) := h ▸ pi_enumT hg hm ha hs
section
variable {K : PySem.W.Frag} {σ : L2.St} {H : Hp} {D : Ends} {g : TG} {tb : TS} {a : Addr} {xs : List V}
theorem i_iEnumT {ta : TA} {R : It → Hp → Prop} (h : ta σ H fun vs H1 => ∃ a xs, vs = [.ref a] ∧ SqT K H1 a xs ∧ R (IteT K a) H1) : iEnumT K ta σ H R := h
theorem f_enumT (s : SqT K H a xs) (Pv : Nat → L2.St → Hp → Prop) (h0 : Pv 0 σ H) (hl : ∀ i σ H, i ≤ xs.length → Pv i σ H → SqT K H a xs)
    (hs : ∀ i x σ H T H1, xs[i]? = some x → Pv i σ H → H T = none → Same H H1 → H1 T = some (.tup [.int (i : Nat), x]) → g (.ref T) σ H1 fun σ2 H2 => tb { D with nx := Pv (i + 1), ct := Pv (i + 1), bk := D.nx } σ2 H2) (hd : ∀ σ H, Pv xs.length σ H → D.nx σ H) :
    ∃ a' xs', [V.ref a] = [.ref a'] ∧ SqT K H a' xs' ∧ ∃ W : Nat → Nat → L2.St → Hp → Prop, (∃ m, W 0 m σ H) ∧ ∀ i m σ H, W i m σ H →
      ((IteT K a').stop i H ∧ D.nx σ H) ∨ ((IteT K a').go i H ∧ ∃ N : L2.St → Hp → Prop, (∀ σ' H', N σ' H' → ∃ m', m' < m ∧ W (i + 1) m' σ' H') ∧ ∀ x H', (IteT K a').yld i H x H' → g x σ H' fun σ2 H2 => tb { D with nx := N, ct := N, bk := D.nx } σ2 H2) := by
  refine ⟨a, xs, rfl, s, fun i m σ H => m = xs.length - i ∧ i ≤ xs.length ∧ Pv i σ H, ⟨xs.length, by simp, Nat.zero_le _, h0⟩, ?_⟩
  rintro i m σ H ⟨rfl, hi, p⟩
  have sq := hl i σ H hi p
  by_cases hlt : i < xs.length
  · have hx : xs[i]? = some xs[i] := List.getElem?_eq_getElem hlt
    refine .inr ⟨⟨xs, xs[i], sq, hx⟩, Pv (i + 1), fun σ' H' p' => ⟨xs.length - (i + 1), by omega, rfl, hlt, p'⟩, fun x H' y => ?_⟩
    obtain ⟨T, z, rfl, hT, rfl, q⟩ := y
    have e := q xs sq
    exact hs i z σ H T _ e p hT (same_new hT _) upd_same
  · have e : i = xs.length := by omega
    subst e
    exact .inl ⟨⟨xs, sq, rfl⟩, hd σ H p⟩
end
end Aw

namespace Aw
open PySem PySem.Spec PyProof.Rows L2

local macro_rules | `(tactic| walk_at "rd1") => `(tactic| first
  | ((with_reducible apply i_var); exact rfl)
  | with_reducible refine i_c ?_
  | with_reducible refine i_op ?_
  | with_reducible refine i_un ?_
  | with_reducible refine i_test ?_
  | with_reducible refine i_tB ?_
  | with_reducible refine i_bl ?_
  | with_reducible refine i_and ?_
  | with_reducible refine i_or ?_
  | with_reducible refine i_not ?_
  | with_reducible refine i_andV ?_
  | with_reducible refine i_orV ?_
  | with_reducible refine i_notV ?_
  | with_reducible refine i_if ?_
  | with_reducible refine i_chain ?_
  | with_reducible refine i_nil ?_
  | with_reducible refine i_cons ?_
  | with_reducible refine i_tup ?_
  | with_reducible refine i_lst ?_
  | with_reducible refine i_cb ?_
  | with_reducible refine i_call ?_
  | with_reducible refine i_bm ?_
  | with_reducible refine i_m1 ?_
  | with_reducible refine i_m0 ?_
  | with_reducible refine i_exstr ?_
  | with_reducible refine i_sl ?_
  | with_reducible refine i_nopart ?_
  | with_reducible refine i_part ?_
  | with_reducible refine i_int ?_
  | with_reducible refine i_seq ?_
  | with_reducible refine i_next ?_
  | with_reducible refine i_asg ?_
  | with_reducible refine i_gname ?_
  | with_reducible refine i_ret ?_
  | with_reducible refine i_retN ?_
  | with_reducible refine i_drop ?_
  | with_reducible refine i_ifS ?_
  | with_reducible refine i_break ?_
  | with_reducible refine i_cont ?_
  | ((with_reducible apply i_aug); exact rfl)
  | with_reducible refine i_add_i ?_
  | with_reducible refine i_sub ?_
  | with_reducible refine i_neg ?_
  | with_reducible refine i_ipadd_i ?_
  | with_reducible refine i_ip ?_
  | with_reducible refine i_lt ?_
  | with_reducible refine i_le ?_
  | with_reducible refine i_gt ?_
  | with_reducible refine i_ge ?_
  | with_reducible refine i_lt_s ?_
  | with_reducible refine i_le_s ?_
  | with_reducible refine i_gt_s ?_
  | with_reducible refine i_ge_s ?_
  | with_reducible refine i_isN ?_
  | with_reducible refine i_notN ?_
  | with_reducible refine i_in_c ?_
  | with_reducible refine i_nin_c ?_
  | with_reducible refine i_gsub ?_
  | with_reducible refine i_gcons ?_
  | with_reducible refine i_gnil ?_
  | with_reducible refine i_iList ?_
  | with_reducible refine i_iTup ?_
  | with_reducible refine i_iStr ?_
  | with_reducible refine i_iRng1 ?_
  | with_reducible refine i_lc ?_
  | with_reducible refine i_for ?_
  | with_reducible refine i_yes ?_
  | with_reducible refine i_repl ?_
  | with_reducible refine i_meth ?_
  | with_reducible refine i_fld ?_
  | with_reducible refine i_sfld ?_
  | with_reducible refine i_din ?_
  | with_reducible refine i_dnin ?_
  | with_reducible refine i_dget ?_
  | with_reducible refine i_dput ?_
  | with_reducible refine i_joined ?_
  | with_reducible refine i_callS ?_
  | with_reducible refine i_xf ?_
  | with_reducible refine i_revL ?_
  | with_reducible refine i_items ?_
  | with_reducible refine i_stepL ?_
  | with_reducible refine i_make ?_
  | with_reducible refine i_fmt ?_
  | with_reducible refine i_jcons ?_
  | with_reducible refine i_jnil ?_
  | with_reducible refine i_iEnum ?_
  | with_reducible refine iteT ?_
  | with_reducible refine iteF ?_
  | with_reducible refine iteNT ?_
  | with_reducible refine iteNF ?_
  | ((with_reducible refine i_len_s ?_ ?_); (first | assumption | exact szl (by assumption)))
  | ((with_reducible refine i_sl_s ?_ ?_); (first | assumption | exact szl (by assumption)))
  | with_reducible refine i_int_b ?_
  | with_reducible refine i_abs ?_
  | with_reducible refine i_min2 ?_
  | with_reducible refine i_eq rfl ?_
  | with_reducible refine i_ne rfl ?_)
local macro_rules | `(tactic| walk_at "rd") => `(tactic| repeat walk_at "rd1")

abbrev s_bad_line : Stmt := topS 29
theorem sc_bad_line : FnScope ["tree", "at", "line"] ["tree"] (defScope s_bad_line) := ⟨rfl, rfl, rfl, by decide +kernel, rfl, by decide +kernel, by decide +kernel⟩
abbrev s_is_rule : Stmt := topS 30
theorem sc_is_rule : FnScope ["value"] ["value"] (defScope s_is_rule) := ⟨rfl, rfl, rfl, by decide +kernel, rfl, by decide +kernel, by decide +kernel⟩
abbrev s_rule_rows : Stmt := topS 31
theorem sc_rule_rows : FnScope ["tree", "line"] ["tree"] (defScope s_rule_rows) := ⟨rfl, rfl, rfl, by decide +kernel, rfl, by decide +kernel, by decide +kernel⟩
section
variable {P : Program} {w : World} {K : PySem.W.Frag} {mg : Str → Option Value} {base : Heap}
def lineD (m : Nat) : PyData → Option Row
  | .str z => lineRow z m
  | _ => none
def linesOk : PyData → Bool
  | .tuple ds => decide (1 ≤ ds.length) && (decide (ds.length ≤ 40) && ds.all fun l => (lineD ds.length l).isSome)
  | _ => false
def isRule (d : PyData) : Bool := treeOk d && linesOk d
def rowsOf : PyData → List Row
  | .tuple ds => ds.filterMap (lineD ds.length)
  | _ => []
theorem optR_non {H : Hp} {r : Option Row} {v : V} (h : optR K H r v) : decide (v = .non) = !r.isSome := by
  cases r with
  | none => have h : v = .non := h; rw [h]; rfl
  | some r =>
    have h : Dt K H r.py v := h
    obtain ⟨a, xs, rfl, _⟩ := h.tup
    exact decide_eq_false fun e => by cases e
def spBadLine (K : PySem.W.Frag) : Sp := fun vs H Q _ => ∃ (v : V) (d : PyData), vs = [v] ∧ Dt K H d v ∧ good d = true ∧ ∀ H' (n : Int), Same H H' → Q (if linesOk d = true then .non else .int n) H'
theorem ok_bad_line (D : Df K mg "bad_line" "bad_line" s_bad_line ["tree"]) (B : NoB mg) (g_MOST_LINES_rules : GV mg "MOST_LINES_rules" (.int 40)) (C_line_row : Cal P w K mg base CX0 "line_row" ["line", "many"] 3 (spLineRow K)) : Cal P w K mg base CX0 "bad_line" ["tree"] 4 (spBadLine K) := by
  refine D.cal fun f fd F => F.ok sc_bad_line (fun vs H Q E h => ?_) (fun cdv A outer s H vs Q E hr h => ?_)
  · obtain ⟨_, _, rfl, _⟩ := h
    rfl
  · obtain ⟨v, d, rfl, hd, hg, q⟩ := h
    refine ⟨_, (pss_cons (ps_if (PW.pt (pw_or (pt_val (pe_callB (call_isiU K) (by rfl) B.m_isinstance (by decide +kernel) (pa_cons (pv 0) (pa_cons (pe_ty (T := "str") (by rfl) B.m_str (by decide +kernel)) pa_nil)))) (pw_or (pt_cmpR op_ltU (pe_callB (call_lenU K) (by rfl) B.m_len (by decide +kernel) (pa_cons (pv 0) pa_nil)) pe_int (nomark _)) (pw_or1 (pt_cmpR op_gtU (pe_callB (call_lenU K) (by rfl) B.m_len (by decide +kernel) (pa_cons (pv 0) pa_nil)) (pe_gv (by rfl) g_MOST_LINES_rules) (nomark _)))))) (pss_one (ps_ret pe_int)) pss_nil)
      (pss_cons (ps_for PassesOwn.never rfl (pi_enumTU K (by rfl) B.m_enumerate (pa_cons (pv 0) pa_nil)) (pg_tupU (n := 2) K (by rfl) (pgs_cons (pg_name (i := 1) sc_bad_line.nd rfl (.inl rfl)) (pgs_cons (pg_name (i := 2) sc_bad_line.nd rfl (.inl rfl)) pgs_nil))) (pss_one (ps_if (pt_cmpR op_isNo (pe_cal C_line_row hr (by rfl) (pa_cons (pv 2) (pa_cons (pe_callB (call_lenU K) (by rfl) B.m_len (by decide +kernel) (pa_cons (pv 0) pa_nil)) pa_nil))) pe_non (nomark _)) (pss_one (ps_ret (pe_op (op_addU K) (pv 1) pe_int))) pss_nil)))
      (pss_one (ps_ret pe_non)))), ?_⟩
    walk_at "rd"
    rcases good_cases hg with ⟨z, rfl, hl, hp⟩ | ⟨ds, rfl, hl, hgs⟩
    · have e := hd.str
      subst e
      refine i_isi (.base (.str z)) (b := true) (by decide +kernel) ?_
      walk_at "rd"
      have q := q H 1 (.refl H)
      rw [if_neg (by simp [linesOk])] at q
      exact q
    · obtain ⟨a, xs, rfl, hs, hq⟩ := hd.tup
      have hlen := hq.length
      refine i_isi (ty_sq hs) (b := false) (by decide +kernel) ?_
      walk_at "rd"
      refine i_len_t hs ?_
      walk_at "rd"
      rw [hlen]
      by_cases h1 : ds.length < 1
      · rw [decide_eq_true (by omega : (ds.length : Int) < 1)]
        walk_at "rd"
        have q := q H 1 (.refl H)
        rw [if_neg (by simp only [linesOk]; rw [decide_eq_false (by omega : ¬ 1 ≤ ds.length)]; simp)] at q
        exact q
      · rw [decide_eq_false (by omega : ¬ (ds.length : Int) < 1)]
        walk_at "rd"
        refine i_len_t hs ?_
        walk_at "rd"
        rw [hlen, decide_eq_false (by omega : ¬ (ds.length : Int) > 40)]
        walk_at "rd"
        refine i_iEnumT ?_
        walk_at "rd"
        refine f_enumT hs (fun i σ H1 => ∃ y1 y2 : Option V, σ = [some (.ref a), y1, y2] ∧ Same H H1 ∧ ∀ j d, j < i → ds[j]? = some d → (lineD ds.length d).isSome = true) ⟨none, none, rfl, .refl H, fun j d h => absurd h (Nat.not_lt_zero _)⟩ ?_ ?_ ?_
        · rintro i σ H1 _ ⟨y1, y2, rfl, s1, _⟩
          exact sqT_tt (.same s1) hs
        · rintro i x σ H1 t H2 hx ⟨y1, y2, rfl, s1, hall⟩ ht s2 e2
          obtain ⟨d, hdi, hdx⟩ := hq.get hx
          walk_at "rd"
          refine i_gtup (.inl (.inl e2)) rfl ?_
          walk_at "rd"
          have s02 := s1.trans s2
          refine i_len_t (sqT_tt (.same s02) hs) ?_
          walk_at "rd"
          refine ⟨x, d, ds.length, by rw [hlen]; rfl, hdx.mono (.same s02), goods_get hgs hdi, by omega, fun H3 u s3 hu => ?_⟩
          walk_at "rd"
          have hu' : optR K H3 (lineD ds.length d) u := by
            cases d <;> exact hu
          rw [optR_non hu']
          cases hb : (lineD ds.length d).isSome with
          | true =>
            walk_at "rd"
            refine ⟨_, _, rfl, s02.trans s3, fun j e hj hje => ?_⟩
            by_cases hji : j < i
            · exact hall j e hji hje
            · have : j = i := by omega
              subst this
              rw [hdi] at hje
              cases hje
              exact hb
          | false =>
            walk_at "rd"
            have q := q H3 ((i : Int) + 1) (s02.trans s3)
            rw [if_neg (fun h => by
              simp only [linesOk, Bool.and_eq_true] at h
              have := (List.all_eq_true.mp h.2.2) d (List.mem_of_getElem? hdi)
              rw [hb] at this; cases this)] at q
            exact q
        · rintro σ H1 ⟨y1, y2, rfl, s1, hall⟩
          walk_at "rd"
          have q := q H1 0 s1
          rw [if_pos (by
            simp only [linesOk]
            rw [decide_eq_true (by omega : 1 ≤ ds.length), decide_eq_true hl, Bool.true_and, Bool.true_and, List.all_eq_true]
            intro d hdm
            obtain ⟨j, hj, ej⟩ := List.mem_iff_getElem.mp hdm
            exact hall j d (by omega) (by rw [List.getElem?_eq_getElem hj, ej]))] at q
          exact q
def spIsRule (K : PySem.W.Frag) : Sp := fun vs H Q _ => ∃ (v : V) (d : PyData), vs = [v] ∧ Dt K H d v ∧ good d = true ∧ ∀ H', Same H H' → Q (.bl (isRule d)) H'
theorem ok_is_rule (D : Df K mg "is_rule" "is_rule" s_is_rule ["value"]) (C_is_tree : Cal P w K mg base CX0 "is_tree" ["value"] 15 (spIsTree K)) (C_bad_line : Cal P w K mg base CX0 "bad_line" ["tree"] 4 (spBadLine K)) : Cal P w K mg base CX0 "is_rule" ["value"] 16 (spIsRule K) := by
  refine D.cal fun f fd F => F.ok sc_is_rule (fun vs H Q E h => ?_) (fun cdv A outer s H vs Q E hr h => ?_)
  · obtain ⟨_, _, rfl, _⟩ := h
    rfl
  · obtain ⟨v, d, rfl, hd, hg, q⟩ := h
    refine ⟨_, (pss_one (ps_ret (pe_and (pe_cal C_is_tree hr (by rfl) (pa_cons (pv 0) pa_nil)) (pe_one (pe_cmpR op_isNo (pe_cal C_bad_line hr (by rfl) (pa_cons (pv 0) pa_nil)) pe_non (nomark _)))))), ?_⟩
    walk_at "rd"
    refine ⟨v, d, rfl, hd, lim_good d hg, fun H1 s1 => ?_⟩
    unfold isRule at q
    cases ht : treeOk d with
    | false =>
      rw [ht] at q
      walk_at "rd"
      exact q H1 s1
    | true =>
      rw [ht] at q
      walk_at "rd"
      refine ⟨v, d, rfl, hd.mono (.same s1), hg, fun H2 n s2 => ?_⟩
      walk_at "rd"
      have e : decide ((if linesOk d = true then V.non else V.int n) = V.non) = linesOk d := by
        cases linesOk d with
        | true => exact decide_eq_true rfl
        | false => exact decide_eq_false fun e => by cases e
      rw [e]
      have q := q H2 (s1.trans s2)
      rw [Bool.true_and] at q
      exact q
def spRuleRows (K : PySem.W.Frag) : Sp := fun vs H Q _ => ∃ (v : V) (d : PyData), vs = [v] ∧ Dt K H d v ∧ isRule d = true ∧ ∀ H' u, Same H H' → Dt K H' (.tuple ((rowsOf d).map Row.py)) u → Q u H'
theorem ok_rule_rows (D : Df K mg "rule_rows" "rule_rows" s_rule_rows ["tree"]) (B : NoB mg) (C_is_rule : Cal P w K mg base CX0 "is_rule" ["value"] 16 (spIsRule K)) (C_line_row : Cal P w K mg base CX0 "line_row" ["line", "many"] 3 (spLineRow K)) : Cal P w K mg base CX0 "rule_rows" ["tree"] 17 (spRuleRows K) := by
  refine D.cal fun f fd F => F.ok sc_rule_rows (fun vs H Q E h => ?_) (fun cdv A outer s H vs Q E hr h => ?_)
  · obtain ⟨_, _, rfl, _⟩ := h
    rfl
  · obtain ⟨v, d, rfl, hd, hru, q⟩ := h
    refine ⟨_, (pss_cons (ps_if (pt_not (pt_val (pe_cal C_is_rule hr (by rfl) (pa_cons (pv 0) pa_nil)))) (pss_one ps_never) pss_nil)
      (pss_one (ps_ret (pe_callTy (call_tupU K) (by rfl) B.m_tuple (by decide +kernel) (pa_cons (pe_lc (own := [("line", 1)]) (by rfl) sc_rule_rows.nd (pi_tupU K (pv 0)) (blkOk_by (own := [("line", 1)]) (N := ["tree", "line"]) (sc := defScope s_rule_rows) (by decide +kernel)) (fun _ _ _ _ _ => pg_name (i := 1) sc_rule_rows.nd rfl (Or.inl rfl)) (fun _ _ _ _ _ => pts_nil) (fun _ _ _ _ _ => (pe_cal C_line_row hr (by rfl) (pa_cons (pv 1) (pa_cons (pe_callB (call_lenU K) (by rfl) B.m_len (by decide +kernel) (pa_cons (pv 0) pa_nil)) pa_nil))))) pa_nil))))), ?_⟩
    have hru' := hru
    unfold isRule at hru'
    rw [Bool.and_eq_true] at hru'
    have hg := (treeOk_good hru'.1).g
    walk_at "rd"
    refine ⟨v, d, rfl, hd, hg, fun H1 s1 => ?_⟩
    rw [hru]
    walk_at "rd"
    rcases good_cases hg with ⟨z, rfl, hl, hp⟩ | ⟨ds, rfl, hl, hgs⟩
    · exact absurd hru'.2 (by simp [linesOk])
    · obtain ⟨a, xs, rfl, hs, hq⟩ := hd.tup
      have hlen := hq.length
      have hall : ∀ d ∈ ds, (lineD ds.length d).isSome = true := by
        have h := hru'.2
        simp only [linesOk, Bool.and_eq_true] at h
        exact List.all_eq_true.mp h.2.2
      refine c_tup (sqT_tt (.same s1) hs) (szlt (by omega)) (fun D i acc H2 => Same H H2 ∧ Dts K H2 (((ds.take i).filterMap (lineD ds.length)).map Row.py) acc) ?_ ?_ ?_ ?_
      · exact fun D H2 _ s2 _ => ⟨s1.trans s2, dts_nil⟩
      · exact fun D i acc H2 _ h => sqT_tt (.same h.1) hs
      · rintro D i x acc H2 hD hx hl1 hi ha ⟨s2, hacc⟩
        obtain ⟨d, hdi, hdx⟩ := hq.get hx
        walk_at "rd"
        refine ⟨rfl, ?_⟩
        walk_at "rd"
        refine i_len_t (sqT_tt (.same s2) hs) ?_
        walk_at "rd"
        refine ⟨x, d, ds.length, by rw [hlen]; rfl, hdx.mono (.same s2), goods_get hgs hdi, by omega, fun H3 u s3 hu => ?_⟩
        have hu' : optR K H3 (lineD ds.length d) u := by
          cases d <;> exact hu
        refine i_ck (s3 _ _ ha) hl1 hi fun H4 b4 e4 => ⟨Same.but (s2.trans s3) (none_back s1 hD) b4, ?_⟩
        have hsm := hall d (List.mem_of_getElem? hdi)
        obtain ⟨r, hr⟩ := Option.isSome_iff_exists.mp hsm
        rw [hr] at hu'
        have hu' : Dt K H3 r.py u := hu'
        rw [take_snoc hdi, List.filterMap_append, List.map_append]
        have e : ([d].filterMap (lineD ds.length)).map Row.py = [r.py] := by rw [List.filterMap_cons, hr]; rfl
        rw [e]
        exact ((hacc.mono (.same s3)).snoc hu').mono (.but b4 (s3 _ _ ha))
      · rintro D acc H2 hD hl1 ha ⟨s2, hacc⟩
        rw [List.take_of_length_le (by omega)] at hacc
        walk_at "rd"
        refine i_tupof_l (.inl (.inl ha)) fun t H3 n3 s3 e3 => ?_
        exact q H3 _ (s2.trans s3) (dt_tup (.inl (.inl e3)) (hacc.mono (.same s3)))
end
end Aw

/-! the machine, in plain Lean -/
namespace Aw
open PySem
def lenD : PyData → Nat
  | .str z => z.length
  | .tuple ds => ds.length
  | _ => 0
def txt? : PyData → Option Str
  | .str z => some z
  | _ => none
def row? : PyData → Option (List PyData)
  | .tuple ds => some ds
  | _ => none
/-- put, join -/
def joinedD (word : Str) (one two : PyData) : Option PyData :=
  match row? one with
  | some ds => if word = "put" then some (.tuple (ds ++ [two])) else none
  | none => match txt? one, txt? two with
    | some a, some b => if word = "join" then some (.str (a ++ b)) else none
    | _, _ => none
def partedD (tree between : PyData) : Option PyData :=
  match txt? tree, txt? between with
  | some a, some b => if b.length = 0 then none else some (.tuple ((Txt.split a b).map .str))
  | _, _ => none
def txts : List PyData → Option (List Str)
  | [] => some []
  | d :: ds => match txt? d, txts ds with
    | some z, some r => some (z :: r)
    | _, _ => none
def gluedD (tree between : PyData) : Option PyData :=
  match row? tree, txt? between with
  | some ds, some b => (txts ds).map fun ys => .str (Txt.join b ys)
  | _, _ => none
def takenD (word : Str) (tree : PyData) : Option PyData :=
  if word = "size" then some (.str (Str.ofString (toString (lenD tree : Int)))) else
  match tree with
  | .str z => match z.cps.toList with
    | [] => none
    | c :: r => some (.str (if word = "first" then S [c] else S r))
  | .tuple ds => match ds with
    | [] => none
    | d :: r => some (if word = "first" then d else .tuple r)
  | _ => none
end Aw

namespace Aw
open PySem PySem.Spec PyProof.Rows L2

local macro_rules | `(tactic| walk_at "rd1") => `(tactic| first
  | ((with_reducible apply i_var); exact rfl)
  | with_reducible refine i_c ?_
  | with_reducible refine i_op ?_
  | with_reducible refine i_un ?_
  | with_reducible refine i_test ?_
  | with_reducible refine i_tB ?_
  | with_reducible refine i_bl ?_
  | with_reducible refine i_and ?_
  | with_reducible refine i_or ?_
  | with_reducible refine i_not ?_
  | with_reducible refine i_andV ?_
  | with_reducible refine i_orV ?_
  | with_reducible refine i_notV ?_
  | with_reducible refine i_if ?_
  | with_reducible refine i_chain ?_
  | with_reducible refine i_nil ?_
  | with_reducible refine i_cons ?_
  | with_reducible refine i_tup ?_
  | with_reducible refine i_lst ?_
  | with_reducible refine i_cb ?_
  | with_reducible refine i_call ?_
  | with_reducible refine i_bm ?_
  | with_reducible refine i_m1 ?_
  | with_reducible refine i_m0 ?_
  | with_reducible refine i_exstr ?_
  | with_reducible refine i_sl ?_
  | with_reducible refine i_nopart ?_
  | with_reducible refine i_part ?_
  | with_reducible refine i_int ?_
  | with_reducible refine i_seq ?_
  | with_reducible refine i_next ?_
  | with_reducible refine i_asg ?_
  | with_reducible refine i_gname ?_
  | with_reducible refine i_ret ?_
  | with_reducible refine i_retN ?_
  | with_reducible refine i_drop ?_
  | with_reducible refine i_ifS ?_
  | with_reducible refine i_break ?_
  | with_reducible refine i_cont ?_
  | ((with_reducible apply i_aug); exact rfl)
  | with_reducible refine i_add_i ?_
  | with_reducible refine i_sub ?_
  | with_reducible refine i_neg ?_
  | with_reducible refine i_ipadd_i ?_
  | with_reducible refine i_ip ?_
  | with_reducible refine i_lt ?_
  | with_reducible refine i_le ?_
  | with_reducible refine i_gt ?_
  | with_reducible refine i_ge ?_
  | with_reducible refine i_lt_s ?_
  | with_reducible refine i_le_s ?_
  | with_reducible refine i_gt_s ?_
  | with_reducible refine i_ge_s ?_
  | with_reducible refine i_isN ?_
  | with_reducible refine i_notN ?_
  | with_reducible refine i_in_c ?_
  | with_reducible refine i_nin_c ?_
  | with_reducible refine i_gsub ?_
  | with_reducible refine i_gcons ?_
  | with_reducible refine i_gnil ?_
  | with_reducible refine i_iList ?_
  | with_reducible refine i_iTup ?_
  | with_reducible refine i_iStr ?_
  | with_reducible refine i_iRng1 ?_
  | with_reducible refine i_lc ?_
  | with_reducible refine i_for ?_
  | with_reducible refine i_yes ?_
  | with_reducible refine i_repl ?_
  | with_reducible refine i_meth ?_
  | with_reducible refine i_fld ?_
  | with_reducible refine i_sfld ?_
  | with_reducible refine i_din ?_
  | with_reducible refine i_dnin ?_
  | with_reducible refine i_dget ?_
  | with_reducible refine i_dput ?_
  | with_reducible refine i_joined ?_
  | with_reducible refine i_callS ?_
  | with_reducible refine i_xf ?_
  | with_reducible refine i_revL ?_
  | with_reducible refine i_items ?_
  | with_reducible refine i_stepL ?_
  | with_reducible refine i_make ?_
  | with_reducible refine i_fmt ?_
  | with_reducible refine i_jcons ?_
  | with_reducible refine i_jnil ?_
  | with_reducible refine i_iEnum ?_
  | with_reducible refine iteT ?_
  | with_reducible refine iteF ?_
  | with_reducible refine iteNT ?_
  | with_reducible refine iteNF ?_
  | ((with_reducible refine i_len_s ?_ ?_); (first | assumption | exact szl (by assumption)))
  | ((with_reducible refine i_sl_s ?_ ?_); (first | assumption | exact szl (by assumption)))
  | with_reducible refine i_int_b ?_
  | with_reducible refine i_abs ?_
  | with_reducible refine i_min2 ?_
  | with_reducible refine i_eq rfl ?_
  | with_reducible refine i_ne rfl ?_)
local macro_rules | `(tactic| walk_at "rd") => `(tactic| repeat walk_at "rd1")

abbrev s_joined_up : Stmt := topS 37
theorem sc_joined_up : FnScope ["word", "one", "two"] ["word", "one", "two"] (defScope s_joined_up) := ⟨rfl, rfl, rfl, by decide +kernel, rfl, by decide +kernel, by decide +kernel⟩
abbrev s_parted_by : Stmt := topS 38
theorem sc_parted_by : FnScope ["tree", "between"] ["tree", "between"] (defScope s_parted_by) := ⟨rfl, rfl, rfl, by decide +kernel, rfl, by decide +kernel, by decide +kernel⟩
abbrev s_glued_by : Stmt := topS 39
theorem sc_glued_by : FnScope ["tree", "between", "part"] ["tree", "between"] (defScope s_glued_by) := ⟨rfl, rfl, rfl, by decide +kernel, rfl, by decide +kernel, by decide +kernel⟩
abbrev s_taken_from : Stmt := topS 40
theorem sc_taken_from : FnScope ["word", "tree"] ["word", "tree"] (defScope s_taken_from) := ⟨rfl, rfl, rfl, by decide +kernel, rfl, by decide +kernel, by decide +kernel⟩
section
variable {P : Program} {w : World} {K : PySem.W.Frag} {mg : Str → Option Value} {base : Heap}
def OD (K : PySem.W.Frag) (H : Hp) : Option PyData → V → Prop
  | some d, v => Dt K H d v
  | none, v => v = .non
theorem isi_str {d : PyData} {v : V} {H : Hp} {Q : VK} (h : Dt K H d v) (g : good d = true) {b : Bool} (e : (txt? d).isSome = b) (q : Q (.bl b) H) : rIsi K [v, .ty "str"] H Q := by
  subst e
  rcases good_cases g with ⟨z, rfl, _⟩ | ⟨ds, rfl, _⟩
  · have e := h.str
    subst e
    exact i_isi (.base (.str z)) (b := true) (by decide +kernel) q
  · obtain ⟨a, xs, rfl, hs, _⟩ := h.tup
    exact i_isi (ty_sq hs) (b := false) (by decide +kernel) q
theorem isi_tup {d : PyData} {v : V} {H : Hp} {Q : VK} (h : Dt K H d v) (g : good d = true) {b : Bool} (e : (row? d).isSome = b) (q : Q (.bl b) H) : rIsi K [v, .ty "tuple"] H Q := by
  subst e
  rcases good_cases g with ⟨z, rfl, _⟩ | ⟨ds, rfl, _⟩
  · have e := h.str
    subst e
    exact i_isi (.base (.str z)) (b := false) (by decide +kernel) q
  · obtain ⟨a, xs, rfl, hs, _⟩ := h.tup
    exact i_isi (ty_sq hs) (b := true) (by decide +kernel) q
theorem wordD {a b : Str} : decide (V.str a = V.str b) = decide (a = b) := decS
def spJoined (K : PySem.W.Frag) : Sp := fun vs H Q _ => ∃ (word : Str) (v1 v2 : V) (d1 d2 : PyData), vs = [.str word, v1, v2] ∧ Dt K H d1 v1 ∧ Dt K H d2 v2 ∧ good d1 = true ∧ good d2 = true ∧ ∀ H' v, Same H H' → OD K H' (joinedD word d1 d2) v → Q v H'
theorem ok_joined_up (D : Df K mg "joined_up" "joined_up" s_joined_up ["word", "one", "two"]) (B : NoB mg) : Cal P w K mg base CX0 "joined_up" ["word", "one", "two"] 1 (spJoined K) := by
  refine D.cal fun f fd F => F.ok sc_joined_up (fun vs H Q E h => ?_) (fun cdv A outer s H vs Q E hr h => ?_)
  · obtain ⟨_, _, _, _, _, rfl, _⟩ := h
    rfl
  · obtain ⟨word, v1, v2, d1, d2, rfl, h1, h2, g1, g2, q⟩ := h
    refine ⟨_, (pss_cons (ps_if (PW.pt (pw_and (pt_cmpR (op_eqU K hr.units) (pv 0) pe_str (nomark _)) (pw_and1 (pt_val (pe_callB (call_isiU K) (by rfl) B.m_isinstance (by decide +kernel) (pa_cons (pv 1) (pa_cons (pe_ty (T := "tuple") (by rfl) B.m_tuple (by decide +kernel)) pa_nil))))))) (pss_one (ps_ret (pe_op (op_addU K) (pv 1) (pe_tup (pa_cons (pv 2) pa_nil))))) pss_nil)
      (pss_cons (ps_if (PW.pt (pw_and (pt_cmpR (op_eqU K hr.units) (pv 0) pe_str (nomark _)) (pw_and (pt_val (pe_callB (call_isiU K) (by rfl) B.m_isinstance (by decide +kernel) (pa_cons (pv 1) (pa_cons (pe_ty (T := "str") (by rfl) B.m_str (by decide +kernel)) pa_nil)))) (pw_and1 (pt_val (pe_callB (call_isiU K) (by rfl) B.m_isinstance (by decide +kernel) (pa_cons (pv 2) (pa_cons (pe_ty (T := "str") (by rfl) B.m_str (by decide +kernel)) pa_nil)))))))) (pss_one (ps_ret (pe_op (op_addU K) (pv 1) (pv 2)))) pss_nil)
      (pss_one (ps_ret pe_non)))), ?_⟩
    walk_at "rd"
    rw [wordD]
    rcases good_cases g1 with ⟨z, rfl, hl, hp⟩ | ⟨ds, rfl, hl, hgs⟩
    · have e := h1.str
      subst e
      have q : ∀ H' v, Same H H' → OD K H' (match txt? d2 with | some b => if word = "join" then some (.str (z ++ b)) else none | none => none) v → Q v H' := fun H' v s h => q H' v s (by
        show OD K H' (joinedD word (.str z) d2) v
        unfold joinedD
        cases hd : txt? d2 <;> rw [hd] at h <;> exact h)
      have rest : tSeq (tIfS (tAnd (tTest (tOp (rEqU K) (tVar 0) (tC (.str "join")))) (tAnd (tB (tCB (rIsi K) (tCons (tVar 1) (tCons (tC (.ty "str")) tNil)))) (tB (tCB (rIsi K) (tCons (tVar 2) (tCons (tC (.ty "str")) tNil)))))) (tRet (tOp (rAddU K) (tVar 1) (tVar 2))) tNext) (tRet (tC .non)) { nx := fun _ H' => Q .non H', rt := Q } [some (.str word), some (.str z), some v2] H := by
        walk_at "rd"
        rw [wordD]
        by_cases hj : word = "join"
        · rw [decide_eq_true (p := word = "join") hj]
          walk_at "rd"
          refine i_isi (.base (.str z)) (b := true) (by decide +kernel) ?_
          walk_at "rd"
          cases hd : txt? d2 with
          | none =>
            refine isi_str h2 g2 (b := false) (by rw [hd]; rfl) ?_
            walk_at "rd"
            exact q H _ (.refl H) (by rw [hd]; rfl)
          | some b =>
            rcases good_cases g2 with ⟨y, rfl, hl2, _⟩ | ⟨ds, rfl, _⟩
            · have e := h2.str
              subst e
              cases hd
              refine isi_str h2 g2 (b := true) rfl ?_
              walk_at "rd"
              refine i_add_s (szl (by show z.length + b.length ≤ 100000; omega)) ?_
              refine q H _ (.refl H) ?_
              show OD K H (if word = "join" then some (.str (z ++ b)) else none) _
              rw [if_pos hj]
              exact (dt_str : Dt K H (.str (z ++ b)) (.str (z ++ b)))
            · cases hd
        · rw [decide_eq_false (p := word = "join") hj]
          walk_at "rd"
          refine q H _ (.refl H) ?_
          cases hd : txt? d2 with
          | none => rfl
          | some b =>
            show OD K H (if word = "join" then some (.str (z ++ b)) else none) _
            rw [if_neg hj]
            rfl
      refine ite2 (fun _ => ?_) fun _ => ?_
      · walk_at "rd"
        refine i_isi (.base (.str z)) (b := false) (by decide +kernel) ?_
        refine i_bl ?_
        rw [if_neg (by decide)]
        exact rest
      · refine iteF ?_
        exact rest
    · obtain ⟨a, xs, rfl, hsX, hq⟩ := h1.tupX
      have hs : SqT K H a xs := .inl (.inl hsX)
      have hlen := hq.length
      have q : ∀ H' v, Same H H' → OD K H' (if word = "put" then some (.tuple (ds ++ [d2])) else none) v → Q v H' := q
      have rest : (¬ word = "put") → tSeq (tIfS (tAnd (tTest (tOp (rEqU K) (tVar 0) (tC (.str "join")))) (tAnd (tB (tCB (rIsi K) (tCons (tVar 1) (tCons (tC (.ty "str")) tNil)))) (tB (tCB (rIsi K) (tCons (tVar 2) (tCons (tC (.ty "str")) tNil)))))) (tRet (tOp (rAddU K) (tVar 1) (tVar 2))) tNext) (tRet (tC .non)) { nx := fun _ H' => Q .non H', rt := Q } [some (.str word), some (.ref a), some v2] H := by
        intro hw
        have q := q H .non (.refl H) (by rw [if_neg hw]; rfl)
        walk_at "rd"
        rw [wordD]
        refine ite2 (fun _ => ?_) fun _ => ?_
        · walk_at "rd"
          refine i_isi (ty_sq hs) (b := false) (by decide +kernel) ?_
          walk_at "rd"
          exact q
        · walk_at "rd"
          exact q
      by_cases hw : word = "put"
      · rw [decide_eq_true (p := word = "put") hw]
        walk_at "rd"
        refine i_isi (ty_sq hs) (b := true) (by decide +kernel) ?_
        walk_at "rd"
        refine i_new_t (by show 1 ≤ sizeLine; decide) fun t1 H1 n1 s1 e1 => ?_
        refine i_add_tX (s1 _ _ hsX) e1 (szl (by rw [hlen]; show _ + 1 ≤ _; omega)) fun t2 H2 s2 e2 => ?_
        refine q H2 _ (s1.trans s2) ?_
        rw [if_pos hw]
        exact dt_tupX e2 ((hq.mono (.same (s1.trans s2))).snoc (h2.mono (.same (s1.trans s2))))
      · rw [decide_eq_false (p := word = "put") hw]
        refine iteF ?_
        refine iteF ?_
        exact rest hw
/-- tree.split -/
def spParted (K : PySem.W.Frag) : Sp := fun vs H Q _ => ∃ (v1 v2 : V) (d1 d2 : PyData), vs = [v1, v2] ∧ Dt K H d1 v1 ∧ Dt K H d2 v2 ∧ good d1 = true ∧ good d2 = true ∧ ∀ H' v, Same H H' → OD K H' (partedD d1 d2) v → Q v H'
theorem ok_parted_by (D : Df K mg "parted_by" "parted_by" s_parted_by ["tree", "between"]) (B : NoB mg) : Cal P w K mg base CX0 "parted_by" ["tree", "between"] 1 (spParted K) := by
  refine D.cal fun f fd F => F.ok sc_parted_by (fun vs H Q E h => ?_) (fun cdv A outer s H vs Q E hr h => ?_)
  · obtain ⟨_, _, _, _, rfl, _⟩ := h
    rfl
  · obtain ⟨v1, v2, d1, d2, rfl, h1, h2, g1, g2, q⟩ := h
    refine ⟨_, (pss_cons (ps_if (PW.pt (pw_or (pt_not (pt_val (pe_callB (call_isiU K) (by rfl) B.m_isinstance (by decide +kernel) (pa_cons (pv 0) (pa_cons (pe_ty (T := "str") (by rfl) B.m_str (by decide +kernel)) pa_nil))))) (pw_or (pt_not (pt_val (pe_callB (call_isiU K) (by rfl) B.m_isinstance (by decide +kernel) (pa_cons (pv 1) (pa_cons (pe_ty (T := "str") (by rfl) B.m_str (by decide +kernel)) pa_nil))))) (pw_or1 (pt_cmpR (op_eqU K hr.units) (pv 1) pe_str (nomark _)))))) (pss_one (ps_ret pe_non)) pss_nil)
      (pss_one (ps_ret (pe_callTy (call_tupU K) (by rfl) B.m_tuple (by decide +kernel) (pa_cons (pe_splitU (pv 0) (pv 1)) pa_nil))))), ?_⟩
    walk_at "rd"
    unfold partedD at q
    cases e1 : txt? d1 with
    | none =>
      refine isi_str h1 g1 (b := false) (by rw [e1]; rfl) ?_
      rw [e1] at q
      walk_at "rd"
      exact q H _ (.refl H) rfl
    | some a =>
      refine isi_str h1 g1 (b := true) (by rw [e1]; rfl) ?_
      rw [e1] at q
      walk_at "rd"
      cases e2 : txt? d2 with
      | none =>
        refine isi_str h2 g2 (b := false) (by rw [e2]; rfl) ?_
        rw [e2] at q
        walk_at "rd"
        exact q H _ (.refl H) rfl
      | some b =>
        refine isi_str h2 g2 (b := true) (by rw [e2]; rfl) ?_
        rw [e2] at q
        rcases good_cases g1 with ⟨z, rfl, hl, hp⟩ | ⟨ds, rfl, _⟩
        · rcases good_cases g2 with ⟨y, rfl, hl2, hp2⟩ | ⟨ds, rfl, _⟩
          · cases e1
            cases e2
            have x1 := h1.str
            have x2 := h2.str
            subst x1 x2
            have q : ∀ H' v, Same H H' → OD K H' (if b.length = 0 then none else some (.tuple ((Txt.split a b).map .str))) v → Q v H' := q
            walk_at "rd"
            rw [wordD]
            by_cases h0 : b.length = 0
            · have e0 : b.cps.toList = [] := List.length_eq_zero_iff.mp (by rw [len_list]; exact h0)
              have eb : b = "" := S_ext (by rw [e0]; rfl)
              rw [decide_eq_true (p := b = "") eb]
              walk_at "rd"
              exact q H _ (.refl H) (by rw [if_pos h0]; rfl)
            · rw [decide_eq_false (fun e => h0 (by rw [e]; rfl) : ¬ b = Str.ofString "")]
              walk_at "rd"
              refine i_split (by simpa using h0) (szl (by show a.length + 2 ≤ 100000; omega)) fun l H1 n1 s1 e1 => ?_
              walk_at "rd"
              refine i_tupof_l (.inl (.inl e1)) fun t H2 n2 s2 e2 => ?_
              refine q H2 _ (s1.trans s2) ?_
              rw [if_neg h0]
              exact dt_tup (.inl (.inl e2)) dts_strs
          · cases e2
        · cases e1
/-- between.join -/
theorem txts_spec {H : Hp} : ∀ {ds : List PyData} {xs : List V} {i : Nat}, Dts K H ds xs → goods ds = true → ∀ {ys : List Str}, txts ds = some ys → xs = ys.map V.str
  | [], _, _, h, _, ys, e => by cases e; rw [h.nil]; rfl
  | d :: ds, _, i, h, g, ys, e => by
    obtain ⟨v, r, rfl, hv, hr⟩ := h.cons
    simp only [goods, Bool.and_eq_true] at g
    unfold txts at e
    cases h1 : txt? d with
    | none => rw [h1] at e; cases e
    | some z =>
      cases h2 : txts ds with
      | none => rw [h1, h2] at e; cases e
      | some ws =>
        rw [h1, h2] at e
        cases e
        have := txts_spec (i := i) hr g.2 h2
        rcases good_cases g.1 with ⟨y, rfl, _⟩ | ⟨es, rfl, _⟩
        · cases h1
          rw [hv.str, this]
          rfl
        · cases h1
theorem txts_all : ∀ {ds : List PyData}, goods ds = true → (txts ds).isSome = ds.all fun d => (txt? d).isSome
  | [], _ => rfl
  | d :: ds, g => by
    simp only [goods, Bool.and_eq_true] at g
    have ih := txts_all g.2
    unfold txts
    rw [List.all_cons, ← ih]
    cases txt? d <;> cases txts ds <;> rfl
theorem txts_len : ∀ {ds : List PyData} {ys : List Str}, txts ds = some ys → ys.length = ds.length ∧ (ys.map (·.length)).sum ≤ tsizes ds
  | [], _, e => by cases e; exact ⟨rfl, Nat.le_refl _⟩
  | d :: ds, ys, e => by
    unfold txts at e
    cases h1 : txt? d with
    | none => rw [h1] at e; cases e
    | some z =>
      cases h2 : txts ds with
      | none => rw [h1, h2] at e; cases e
      | some ws =>
        rw [h1, h2] at e
        cases e
        obtain ⟨k1, k2⟩ := txts_len h2
        refine ⟨by rw [List.length_cons, List.length_cons, k1], ?_⟩
        rw [List.map_cons, List.sum_cons]
        simp only [tsizes]
        cases d <;> cases h1
        simp only [tsize]
        omega
def spGlued (K : PySem.W.Frag) : Sp := fun vs H Q _ => ∃ (v1 v2 : V) (d1 d2 : PyData), vs = [v1, v2] ∧ Dt K H d1 v1 ∧ Dt K H d2 v2 ∧ good d1 = true ∧ good d2 = true ∧ tsize d1 ≤ 2000 ∧ ∀ H' v, Same H H' → OD K H' (gluedD d1 d2) v → Q v H'
theorem ok_glued_by (D : Df K mg "glued_by" "glued_by" s_glued_by ["tree", "between"]) (B : NoB mg) : Cal P w K mg base CX0 "glued_by" ["tree", "between"] 1 (spGlued K) := by
  refine D.cal fun f fd F => F.ok sc_glued_by (fun vs H Q E h => ?_) (fun cdv A outer s H vs Q E hr h => ?_)
  · obtain ⟨_, _, _, _, rfl, _⟩ := h
    rfl
  · obtain ⟨v1, v2, d1, d2, rfl, h1, h2, g1, g2, hz, q⟩ := h
    refine ⟨_, (pss_cons (ps_if (PW.pt (pw_or (pt_not (pt_val (pe_callB (call_isiU K) (by rfl) B.m_isinstance (by decide +kernel) (pa_cons (pv 0) (pa_cons (pe_ty (T := "tuple") (by rfl) B.m_tuple (by decide +kernel)) pa_nil))))) (pw_or1 (pt_not (pt_val (pe_callB (call_isiU K) (by rfl) B.m_isinstance (by decide +kernel) (pa_cons (pv 1) (pa_cons (pe_ty (T := "str") (by rfl) B.m_str (by decide +kernel)) pa_nil)))))))) (pss_one (ps_ret pe_non)) pss_nil)
      (pss_cons (ps_if (pt_not (pt_val (pe_callB (call_allU K rfl) (by rfl) B.m_all (by decide +kernel) (pa_cons (pe_lc (own := [("part", 2)]) (by rfl) sc_glued_by.nd (pi_tupU K (pv 0)) (blkOk_by (own := [("part", 2)]) (N := ["tree", "between", "part"]) (sc := defScope s_glued_by) (by decide +kernel)) (fun _ _ _ _ _ => pg_name (i := 2) sc_glued_by.nd rfl (Or.inl rfl)) (fun _ _ _ _ _ => pts_nil) (fun _ _ _ _ _ => (pe_callB (call_isiU K) (by rfl) B.m_isinstance (by decide +kernel) (pa_cons (pv 2) (pa_cons (pe_ty (T := "str") (by rfl) B.m_str (by decide +kernel)) pa_nil))))) pa_nil)))) (pss_one (ps_ret pe_non)) pss_nil)
      (pss_one (ps_ret (pe_joinU K (pv 1) (pv 0)))))), ?_⟩
    walk_at "rd"
    rcases good_cases g1 with ⟨z, rfl, hl, hp⟩ | ⟨ds, rfl, hl, hgs⟩
    · refine isi_tup h1 g1 (b := false) rfl ?_
      walk_at "rd"
      exact q H _ (.refl H) rfl
    · refine isi_tup h1 g1 (b := true) rfl ?_
      walk_at "rd"
      obtain ⟨a, xs, rfl, hs, hq⟩ := h1.tup
      have hlen := hq.length
      cases e2 : txt? d2 with
      | none =>
        refine isi_str h2 g2 (b := false) (by rw [e2]; rfl) ?_
        walk_at "rd"
        refine q H _ (.refl H) ?_
        unfold gluedD
        rw [e2]
        rfl
      | some b =>
        rcases good_cases g2 with ⟨y, rfl, hl2, hp2⟩ | ⟨es, rfl, _⟩
        · cases e2
          have x2 := h2.str
          subst x2
          refine isi_str h2 g2 (b := true) rfl ?_
          walk_at "rd"
          refine c_tup hs (szlt (by omega)) (fun D i acc H1 => Same H H1 ∧ acc = ((ds.take i).map fun d => (txt? d).isSome).map V.bl) ?_ ?_ ?_ ?_
          · exact fun D H1 _ s1 _ => ⟨s1, rfl⟩
          · exact fun D i acc H1 _ h => sqT_tt (.same h.1) hs
          · rintro D i x acc H1 hD hx hl1 hi ha ⟨s1, rfl⟩
            obtain ⟨d, hdi, hdx⟩ := hq.get hx
            walk_at "rd"
            refine ⟨rfl, ?_⟩
            walk_at "rd"
            refine isi_str (hdx.mono (.same s1)) (goods_get hgs hdi) rfl ?_
            refine i_ck ha hl1 hi fun H2 b2 e3 => ⟨Same.but s1 hD b2, ?_⟩
            rw [take_snoc hdi, List.map_append, List.map_append]
            rfl
          · rintro D acc H1 hD hl1 ha ⟨s1, rfl⟩
            rw [List.take_of_length_le (by omega)] at ha
            walk_at "rd"
            refine i_all (.inl (.inl ha)) ?_
            have e4 : ((ds.map fun d => (txt? d).isSome).all id) = (txts ds).isSome := by
              rw [txts_all hgs, List.all_map]
              rfl
            rw [e4]
            have q : ∀ H' v, Same H H' → OD K H' ((txts ds).map fun ys => .str (Txt.join b ys)) v → Q v H' := q
            cases ht : txts ds with
            | none =>
              rw [ht] at q
              rw [show (none : Option (List Str)).isSome = false from rfl]
              walk_at "rd"
              exact q H1 _ s1 rfl
            | some ys =>
              rw [ht] at q
              rw [show (some ys).isSome = true from rfl]
              walk_at "rd"
              have ex := txts_spec (i := 0) hq hgs ht
              subst ex
              obtain ⟨k1, k2⟩ := txts_len ht
              simp only [tsize] at hz
              have hbl : b.length ≤ 300 := hl2
              have hm := Nat.mul_le_mul (show ys.length ≤ 40 by omega) hbl
              refine i_join (.inr (sqT_tt (.same s1) hs)) (by omega) ?_
              exact q H1 _ s1 (dt_str : Dt K H1 (.str (Txt.join b ys)) (.str (Txt.join b ys)))
        · cases e2
/-- size, first, rest -/
def spTaken (K : PySem.W.Frag) : Sp := fun vs H Q _ => ∃ (word : Str) (v : V) (d : PyData), vs = [.str word, v] ∧ Dt K H d v ∧ good d = true ∧ ∀ H' u, Same H H' → OD K H' (takenD word d) u → Q u H'
theorem ok_taken_from (D : Df K mg "taken_from" "taken_from" s_taken_from ["word", "tree"]) (B : NoB mg) : Cal P w K mg base CX0 "taken_from" ["word", "tree"] 1 (spTaken K) := by
  refine D.cal fun f fd F => F.ok sc_taken_from (fun vs H Q E h => ?_) (fun cdv A outer s H vs Q E hr h => ?_)
  · obtain ⟨_, _, _, rfl, _⟩ := h
    rfl
  · obtain ⟨word, v, d, rfl, hd, hg, q⟩ := h
    refine ⟨_, (pss_cons (ps_if (pt_cmpR (op_eqU K hr.units) (pv 0) pe_str (nomark _)) (pss_one (ps_ret (pe_callTy call_strU (by rfl) B.m_str (by decide +kernel) (pa_cons (pe_callB (call_lenU K) (by rfl) B.m_len (by decide +kernel) (pa_cons (pv 1) pa_nil)) pa_nil)))) pss_nil)
      (pss_cons (ps_if (pt_cmpR (op_eqU K hr.units) (pe_callB (call_lenU K) (by rfl) B.m_len (by decide +kernel) (pa_cons (pv 1) pa_nil)) pe_int (nomark _)) (pss_one (ps_ret pe_non)) pss_nil)
      (pss_cons (ps_if (pt_cmpR (op_eqU K hr.units) (pv 0) pe_str (nomark _)) (pss_one (ps_ret (pe_ix (ix_U K) (pv 1) pe_int (fun _ _ => rfl)))) pss_nil)
      (pss_one (ps_ret (pe_slice (sl_U K) (pv 1) (po_some pe_int) po_none)))))), ?_⟩
    unfold takenD at q
    walk_at "rd"
    rw [wordD]
    rcases good_cases hg with ⟨z, rfl, hl, hp⟩ | ⟨ds, rfl, hl, hgs⟩
    · have e := hd.str
      subst e
      have hl' : z.length ≤ 100000 := by omega
      by_cases hs : word = "size"
      · rw [decide_eq_true (p := word = "size") hs]
        rw [if_pos hs] at q
        walk_at "rd"
        refine i_str_i (by
          have : z.length.log2 ≤ z.length := Nat.log2_le_self _
          show (z.length : Int).natAbs.log2 < 1920
          rw [Int.natAbs_natCast]
          omega) ?_
        exact q H _ (.refl H) (dt_str : Dt K H (.str (Str.ofString (toString (z.length : Int)))) _)
      · rw [decide_eq_false (p := word = "size") hs]
        rw [if_neg hs] at q
        walk_at "rd"
        rw [decI]
        cases hz : z.cps.toList with
        | nil =>
          have h0 : z.length = 0 := by rw [← len_list, hz]; rfl
          rw [decide_eq_true (by omega : (z.length : Int) = 0)]
          walk_at "rd"
          refine q H _ (.refl H) ?_
          show OD K H (match z.cps.toList with | [] => none | c :: r => some (.str (if word = "first" then S [c] else S r))) _
          rw [hz]
          rfl
        | cons c r =>
          have h0 : z.length = r.length + 1 := by rw [← len_list, hz]; rfl
          rw [decide_eq_false (by omega : ¬ (z.length : Int) = 0)]
          walk_at "rd"
          rw [wordD]
          have q : ∀ H' u, Same H H' → OD K H' (some (.str (if word = "first" then S [c] else S r))) u → Q u H' := fun H' u s h => q H' u s (by
            show OD K H' (match z.cps.toList with | [] => none | c :: r => some (.str (if word = "first" then S [c] else S r))) u
            rw [hz]
            exact h)
          by_cases hf : word = "first"
          · rw [decide_eq_true (p := word = "first") hf]
            rw [if_pos hf] at q
            walk_at "rd"
            refine i_ix_s (szl hl') (atI_nat (j := 0) (v := c) (by rw [hz]; rfl)) ?_
            exact q H _ (.refl H) (dt_str : Dt K H (.str (S [c])) _)
          · rw [decide_eq_false (p := word = "first") hf]
            rw [if_neg hf] at q
            walk_at "rd"
            have c1 : cutS z (some 1) none = S (z.cps.toList.drop 1) := cut_from (a := 1)
            rw [c1, hz]
            exact q H _ (.refl H) (dt_str : Dt K H (.str (S r)) _)
    · obtain ⟨a, xs, rfl, hsX, hq⟩ := hd.tupX
      have hs : SqT K H a xs := .inl (.inl hsX)
      have hlen := hq.length
      by_cases hw : word = "size"
      · rw [decide_eq_true (p := word = "size") hw]
        rw [if_pos hw] at q
        walk_at "rd"
        refine i_len_t hs ?_
        walk_at "rd"
        refine i_str_i (by
          have : xs.length.log2 ≤ xs.length := Nat.log2_le_self _
          show (xs.length : Int).natAbs.log2 < 1920
          rw [Int.natAbs_natCast]
          omega) ?_
        rw [hlen]
        exact q H _ (.refl H) (dt_str : Dt K H (.str (Str.ofString (toString (ds.length : Int)))) _)
      · rw [decide_eq_false (p := word = "size") hw]
        rw [if_neg hw] at q
        walk_at "rd"
        refine i_len_t hs ?_
        walk_at "rd"
        rw [decI, hlen]
        cases ds with
        | nil =>
          rw [decide_eq_true (p := ((([] : List PyData).length : Int) = 0)) rfl]
          walk_at "rd"
          exact q H _ (.refl H) rfl
        | cons d r =>
          rw [decide_eq_false (by rw [List.length_cons]; omega : ¬ ((d :: r).length : Int) = 0)]
          obtain ⟨v, vs, rfl, hv, hvs⟩ := hq.cons
          have q : ∀ H' u, Same H H' → OD K H' (some (if word = "first" then d else .tuple r)) u → Q u H' := q
          walk_at "rd"
          rw [wordD]
          by_cases hf : word = "first"
          · rw [decide_eq_true (p := word = "first") hf]
            rw [if_pos hf] at q
            walk_at "rd"
            refine i_ix_t hs (atI_nat (j := 0) rfl) ?_
            exact q H _ (.refl H) hv
          · rw [decide_eq_false (p := word = "first") hf]
            rw [if_neg hf] at q
            walk_at "rd"
            refine i_sl_tX hsX fun t H1 s1 e1 => ?_
            have e2 : cutV (v :: vs) (some 1) none = vs := by
              unfold cutV
              rw [show HT.sIx (v :: vs).length 0 (some 1) = 1 from by rw [show ((1 : Int)) = ((1 : Nat) : Int) from rfl, HT.sIx_nat]; simp, HT.sIx_none]
              simp
            rw [e2] at e1
            exact q H1 _ s1 (dt_tupX e1 (hvs.mono (.same s1)))
end
end Aw

/-! lines as they are; the machine and the plain walk, in plain Lean -/
namespace Aw
open PySem
def bx (b : Nat) : Str := S [97 + b]
inductive Ln where
  | text (b : Nat) (t : Str)
  | self (b : Nat)
  | copy (b c : Nat)
  | emp (b : Nat)
  | put (b c : Nat)
  | join (b c : Nat)
  | first (b c : Nat)
  | rest (b c : Nat)
  | size (b c : Nat)
  | cut (b c d : Nat)
  | glue (b c d : Nat)
  | ask (b c : Nat)
  | has (b c : Nat)
  | names (b c : Nat)
  | go (n : Nat)
  | like (b c n : Nat)
  | rowed (b n : Nat)
  | none (b n : Nat)
  | say (b : Nat)
  | fault
def Ln.row : Ln → Row
  | .text b t => ("text", [.str (bx b), .str t])
  | .self b => ("self", [.str (bx b)])
  | .copy b c => ("copy", [.str (bx b), .str (bx c)])
  | .emp b => ("row", [.str (bx b)])
  | .put b c => ("put", [.str (bx b), .str (bx c)])
  | .join b c => ("join", [.str (bx b), .str (bx c)])
  | .first b c => ("first", [.str (bx b), .str (bx c)])
  | .rest b c => ("rest", [.str (bx b), .str (bx c)])
  | .size b c => ("size", [.str (bx b), .str (bx c)])
  | .cut b c d => ("cut", [.str (bx b), .str (bx c), .str (bx d)])
  | .glue b c d => ("glue", [.str (bx b), .str (bx c), .str (bx d)])
  | .ask b c => ("ask", [.str (bx b), .str (bx c)])
  | .has b c => ("has", [.str (bx b), .str (bx c)])
  | .names b c => ("names", [.str (bx b), .str (bx c)])
  | .go n => ("go", [.int n])
  | .like b c n => ("like", [.str (bx b), .str (bx c), .int n])
  | .rowed b n => ("rowed", [.str (bx b), .int n])
  | .none b n => ("none", [.str (bx b), .int n])
  | .say b => ("say", [.str (bx b)])
  | .fault => ("fault", [])
def Ln.ok (m : Nat) : Ln → Prop
  | .text b t => b < 8 ∧ good (.str t) = true
  | .self b | .emp b | .say b => b < 8
  | .copy b c | .put b c | .join b c | .first b c | .rest b c | .size b c | .ask b c | .has b c | .names b c => b < 8 ∧ c < 8
  | .cut b c d | .glue b c d => b < 8 ∧ c < 8 ∧ d < 8
  | .go n => 1 ≤ n ∧ n ≤ m
  | .like b c n => b < 8 ∧ c < 8 ∧ 1 ≤ n ∧ n ≤ m
  | .rowed b n | .none b n => b < 8 ∧ 1 ≤ n ∧ n ≤ m
  | .fault => True
theorem isBox_bx {z : Str} (h : isBox z.cps.toList = true) : ∃ b, b < 8 ∧ z = bx b := by
  have key : ∀ l : List Nat, isBox l = true → ∃ b, b < 8 ∧ l = [97 + b] := by
    intro l h
    match l, h with
    | [c], h =>
      simp only [isBox, Bool.and_eq_true, decide_eq_true_eq] at h
      exact ⟨c - 97, by omega, by rw [show 97 + (c - 97) = c by omega]⟩
  obtain ⟨b, hb, e⟩ := key _ h
  exact ⟨b, hb, S_ext (by rw [e]; rfl)⟩
theorem numD_ok {l : List Nat} {m n : Nat} (h : numD l m = some n) : 1 ≤ n ∧ n ≤ m := by
  unfold numD at h
  split at h
  · cases h
  · rename_i h0
    split at h
    · rename_i h1
      split at h
      · cases h
      · rename_i h2
        have e := Option.some.inj h
        subst e
        refine ⟨?_, by omega⟩
        match l, h0, h1 with
        | [], h0, _ => exact absurd (.inl rfl) h0
        | c :: r, h0, h1 =>
          rw [List.all_cons, Bool.and_eq_true] at h1
          have h3 := h1.1
          simp only [dgC, Bool.and_eq_true, decide_eq_true_eq] at h3
          have h4 : c ≠ 48 := fun e => h0 (.inr (by rw [e]; rfl))
          exact PySem.NumText.digitsVal_pos (by omega)
    · cases h
theorem partD_b {p : Str} {m : Nat} {d : PyData} (h : partD 98 p m = some d) : ∃ b, b < 8 ∧ d = .str (bx b) := by
  unfold partD at h
  rw [if_pos rfl] at h
  split at h
  · rename_i k
    obtain ⟨b, hb, e⟩ := isBox_bx k
    exact ⟨b, hb, by rw [← Option.some.inj h, e]⟩
  · cases h
theorem partD_n {p : Str} {m : Nat} {d : PyData} (h : partD 110 p m = some d) : ∃ n, 1 ≤ n ∧ n ≤ m ∧ d = .int (n : Nat) := by
  unfold partD at h
  rw [if_neg (by decide)] at h
  cases e : numD p.cps.toList m with
  | none => rw [e] at h; cases h
  | some n =>
    rw [e] at h
    obtain ⟨h1, h2⟩ := numD_ok e
    exact ⟨n, h1, h2, (Option.some.inj h).symm⟩
theorem partsD_cons {f : Nat} {fs : List Nat} {ps : List Str} {m : Nat} {ds : List PyData} (hl : ps.length = (f :: fs).length) (h : partsD (f :: fs) ps m = some ds) : ∃ p ps' d ds', ps = p :: ps' ∧ ps'.length = fs.length ∧ ds = d :: ds' ∧ partD f p m = some d ∧ partsD fs ps' m = some ds' := by
  match ps, hl with
  | p :: ps', hl =>
    unfold partsD at h
    cases e1 : partD f p m with
    | none => rw [e1] at h; cases h
    | some d =>
      cases e2 : partsD fs ps' m with
      | none => rw [e1, e2] at h; cases h
      | some r =>
        rw [e1, e2] at h
        exact ⟨p, ps', d, r, rfl, by simpa using hl, (Option.some.inj h).symm, e1, e2⟩
theorem partsD_nil {ps : List Str} {m : Nat} {ds : List PyData} (hl : ps.length = 0) (h : partsD [] ps m = some ds) : ds = [] := by
  match ps, hl with
  | [], _ => exact (Option.some.inj h).symm
theorem pd_ {ps : List Str} {m : Nat} {ds : List PyData} (hl : ps.length = 0) (h : partsD [] ps m = some ds) : ds = [] := partsD_nil hl h
theorem pd_b {ps : List Str} {m : Nat} {ds : List PyData} (hl : ps.length = 1) (h : partsD [98] ps m = some ds) : ∃ b, b < 8 ∧ ds = [.str (bx b)] := by
  obtain ⟨p, ps', d, ds', rfl, h1, rfl, h2, h3⟩ := partsD_cons hl h
  obtain ⟨b, hb, rfl⟩ := partD_b h2
  exact ⟨b, hb, by rw [partsD_nil h1 h3]⟩
theorem pd_n {ps : List Str} {m : Nat} {ds : List PyData} (hl : ps.length = 1) (h : partsD [110] ps m = some ds) : ∃ n, 1 ≤ n ∧ n ≤ m ∧ ds = [.int (n : Nat)] := by
  obtain ⟨p, ps', d, ds', rfl, h1, rfl, h2, h3⟩ := partsD_cons hl h
  obtain ⟨n, ha, hb, rfl⟩ := partD_n h2
  exact ⟨n, ha, hb, by rw [partsD_nil h1 h3]⟩
theorem pd_bb {ps : List Str} {m : Nat} {ds : List PyData} (hl : ps.length = 2) (h : partsD [98, 98] ps m = some ds) : ∃ b c, b < 8 ∧ c < 8 ∧ ds = [.str (bx b), .str (bx c)] := by
  obtain ⟨p, ps', d, ds', rfl, h1, rfl, h2, h3⟩ := partsD_cons hl h
  obtain ⟨b, hb, rfl⟩ := partD_b h2
  obtain ⟨c, hc, rfl⟩ := pd_b h1 h3
  exact ⟨b, c, hb, hc, rfl⟩
theorem pd_bn {ps : List Str} {m : Nat} {ds : List PyData} (hl : ps.length = 2) (h : partsD [98, 110] ps m = some ds) : ∃ b n, b < 8 ∧ 1 ≤ n ∧ n ≤ m ∧ ds = [.str (bx b), .int (n : Nat)] := by
  obtain ⟨p, ps', d, ds', rfl, h1, rfl, h2, h3⟩ := partsD_cons hl h
  obtain ⟨b, hb, rfl⟩ := partD_b h2
  obtain ⟨n, k1, k2, rfl⟩ := pd_n h1 h3
  exact ⟨b, n, hb, k1, k2, rfl⟩
theorem pd_bbb {ps : List Str} {m : Nat} {ds : List PyData} (hl : ps.length = 3) (h : partsD [98, 98, 98] ps m = some ds) : ∃ b c d, b < 8 ∧ c < 8 ∧ d < 8 ∧ ds = [.str (bx b), .str (bx c), .str (bx d)] := by
  obtain ⟨p, ps', d, ds', rfl, h1, rfl, h2, h3⟩ := partsD_cons hl h
  obtain ⟨b, hb, rfl⟩ := partD_b h2
  obtain ⟨c, d, hc, hd, rfl⟩ := pd_bb h1 h3
  exact ⟨b, c, d, hb, hc, hd, rfl⟩
theorem pd_bbn {ps : List Str} {m : Nat} {ds : List PyData} (hl : ps.length = 3) (h : partsD [98, 98, 110] ps m = some ds) : ∃ b c n, b < 8 ∧ c < 8 ∧ 1 ≤ n ∧ n ≤ m ∧ ds = [.str (bx b), .str (bx c), .int (n : Nat)] := by
  obtain ⟨p, ps', d, ds', rfl, h1, rfl, h2, h3⟩ := partsD_cons hl h
  obtain ⟨b, hb, rfl⟩ := partD_b h2
  obtain ⟨c, n, hc, k1, k2, rfl⟩ := pd_bn h1 h3
  exact ⟨b, c, n, hb, hc, k1, k2, rfl⟩
theorem ln_of {z : Str} {m : Nat} {r : Row} (hg : good (.str z) = true) (h : lineRow z m = some r) : ∃ l : Ln, l.ok m ∧ l.row = r := by
  unfold lineRow at h
  split at h
  · unfold textRow at h
    split at h
    · rename_i k
      obtain ⟨b, hb, e⟩ := isBox_bx (z := S ((z.cps.toList.drop 5).take 1)) k.1
      refine ⟨.text b (S (z.cps.toList.drop 7)), ⟨hb, ?_⟩, ?_⟩
      · simp only [good, Bool.and_eq_true, decide_eq_true_eq] at hg ⊢
        refine ⟨?_, ?_⟩
        · rw [S_len, List.length_drop, len_list]; omega
        · rw [S_list, List.all_eq_true]
          intro c hc
          exact List.all_eq_true.mp hg.2 c (List.mem_of_mem_drop hc)
      · rw [← Option.some.inj h]
        show (_, [PyData.str (bx b), _]) = _
        rw [← e]
    · cases h
  · split at h
    · cases h
    · rename_i w ps e
      cases hf : forms.lookup w with
      | none => rw [hf] at h; cases h
      | some fm =>
        rw [hf] at h
        have h : (if ps.length = fm.length then (partsD fm.cps.toList ps m).map fun r => (w, r) else none) = some r := h
        split at h
        · rename_i hl
          cases hp : partsD fm.cps.toList ps m with
          | none => rw [hp] at h; cases h
          | some ds =>
            rw [hp] at h
            have hr : (w, ds) = r := Option.some.inj h
            subst hr
            have hm := lookup_mem hf
            simp only [forms, List.mem_cons, List.not_mem_nil, or_false, Prod.mk.injEq] at hm
            rcases hm with ⟨rfl, rfl⟩ | ⟨rfl, rfl⟩ | ⟨rfl, rfl⟩ | ⟨rfl, rfl⟩ | ⟨rfl, rfl⟩ | ⟨rfl, rfl⟩ | ⟨rfl, rfl⟩ | ⟨rfl, rfl⟩ | ⟨rfl, rfl⟩ | ⟨rfl, rfl⟩ | ⟨rfl, rfl⟩ | ⟨rfl, rfl⟩ | ⟨rfl, rfl⟩ | ⟨rfl, rfl⟩ | ⟨rfl, rfl⟩ | ⟨rfl, rfl⟩ | ⟨rfl, rfl⟩ | ⟨rfl, rfl⟩ | ⟨rfl, rfl⟩
            · obtain ⟨b, hb, rfl⟩ := pd_b hl hp; exact ⟨.self b, hb, rfl⟩
            · obtain ⟨b, c, hb, hc, rfl⟩ := pd_bb hl hp; exact ⟨.copy b c, ⟨hb, hc⟩, rfl⟩
            · obtain ⟨b, hb, rfl⟩ := pd_b hl hp; exact ⟨.emp b, hb, rfl⟩
            · obtain ⟨b, c, hb, hc, rfl⟩ := pd_bb hl hp; exact ⟨.put b c, ⟨hb, hc⟩, rfl⟩
            · obtain ⟨b, c, hb, hc, rfl⟩ := pd_bb hl hp; exact ⟨.join b c, ⟨hb, hc⟩, rfl⟩
            · obtain ⟨b, c, hb, hc, rfl⟩ := pd_bb hl hp; exact ⟨.first b c, ⟨hb, hc⟩, rfl⟩
            · obtain ⟨b, c, hb, hc, rfl⟩ := pd_bb hl hp; exact ⟨.rest b c, ⟨hb, hc⟩, rfl⟩
            · obtain ⟨b, c, hb, hc, rfl⟩ := pd_bb hl hp; exact ⟨.size b c, ⟨hb, hc⟩, rfl⟩
            · obtain ⟨b, c, d, hb, hc, hd, rfl⟩ := pd_bbb hl hp; exact ⟨.cut b c d, ⟨hb, hc, hd⟩, rfl⟩
            · obtain ⟨b, c, d, hb, hc, hd, rfl⟩ := pd_bbb hl hp; exact ⟨.glue b c d, ⟨hb, hc, hd⟩, rfl⟩
            · obtain ⟨b, c, hb, hc, rfl⟩ := pd_bb hl hp; exact ⟨.ask b c, ⟨hb, hc⟩, rfl⟩
            · obtain ⟨b, c, hb, hc, rfl⟩ := pd_bb hl hp; exact ⟨.has b c, ⟨hb, hc⟩, rfl⟩
            · obtain ⟨b, c, hb, hc, rfl⟩ := pd_bb hl hp; exact ⟨.names b c, ⟨hb, hc⟩, rfl⟩
            · obtain ⟨n, k1, k2, rfl⟩ := pd_n hl hp; exact ⟨.go n, ⟨k1, k2⟩, rfl⟩
            · obtain ⟨b, c, n, hb, hc, k1, k2, rfl⟩ := pd_bbn hl hp; exact ⟨.like b c n, ⟨hb, hc, k1, k2⟩, rfl⟩
            · obtain ⟨b, n, hb, k1, k2, rfl⟩ := pd_bn hl hp; exact ⟨.rowed b n, ⟨hb, k1, k2⟩, rfl⟩
            · obtain ⟨b, n, hb, k1, k2, rfl⟩ := pd_bn hl hp; exact ⟨.none b n, ⟨hb, k1, k2⟩, rfl⟩
            · obtain ⟨b, hb, rfl⟩ := pd_b hl hp; exact ⟨.say b, hb, rfl⟩
            · rw [pd_ hl hp]; exact ⟨.fault, trivial, rfl⟩
        · cases h
/-! ### the lines of a rule -/
theorem lns_ex {d : PyData} (h : isRule d = true) : ∃ ls : List Ln, ls.map Ln.row = rowsOf d ∧ 1 ≤ ls.length ∧ ls.length ≤ 40 ∧ ∀ l ∈ ls, l.ok ls.length := by
  unfold isRule at h
  rw [Bool.and_eq_true] at h
  have hg := (treeOk_good h.1).g
  cases d with
  | tuple ds =>
    have h2 := h.2
    simp only [linesOk, Bool.and_eq_true, decide_eq_true_eq] at h2
    have key : ∀ (n : Nat) (es : List PyData), goods es = true → (es.all fun l => (lineD n l).isSome) = true → ∃ ls : List Ln, ls.map Ln.row = es.filterMap (lineD n) ∧ ls.length = es.length ∧ ∀ l ∈ ls, l.ok n := by
      intro n es
      induction es with
      | nil => exact fun _ _ => ⟨[], rfl, rfl, by simp⟩
      | cons e r ih =>
        intro hg ha
        simp only [goods, Bool.and_eq_true] at hg
        rw [List.all_cons, Bool.and_eq_true] at ha
        obtain ⟨ls, h1, h2, h3⟩ := ih hg.2 ha.2
        obtain ⟨r0, hr⟩ := Option.isSome_iff_exists.mp ha.1
        cases e with
        | str z =>
          obtain ⟨l, hl, el⟩ := ln_of hg.1 hr
          refine ⟨l :: ls, ?_, by simp [h2], ?_⟩
          · rw [List.map_cons, h1, el, List.filterMap_cons, hr]
          · intro x hx
            rcases List.mem_cons.mp hx with rfl | hx
            · exact hl
            · exact h3 x hx
        | _ => cases hr
    simp only [good, Bool.and_eq_true] at hg
    obtain ⟨ls, h3, h4, h5⟩ := key ds.length ds hg.2 h2.2.2
    exact ⟨ls, h3, by omega, by omega, by rw [h4]; exact h5⟩
  | _ => simp [linesOk] at h
noncomputable def lnsOf (d : PyData) : List Ln := open Classical in if h : isRule d = true then Classical.choose (lns_ex h) else []
theorem lnsOf_ok {d : PyData} (h : isRule d = true) : (lnsOf d).map Ln.row = rowsOf d ∧ 1 ≤ (lnsOf d).length ∧ (lnsOf d).length ≤ 40 ∧ ∀ l ∈ lnsOf d, l.ok (lnsOf d).length := by
  unfold lnsOf
  rw [dif_pos h]
  exact Classical.choose_spec (lns_ex h)
end Aw

/-! the machine and the plain walk, in plain Lean -/
namespace Aw
open PySem
abbrev Asked := Str × Str × Option PyData
def ansPy : Option PyData → PyData
  | none => .none
  | some d => d
def Asked.py (a : Asked) : PyData := .tuple [.tuple [.str a.1, .str a.2.1], ansPy a.2.2]
/-- how a machine stands -/
inductive Ms where
  | go
  | asks (k z : Str)
  | said (d : PyData)
  | fault (w : Str)
def Ms.py : Ms → PyData
  | .go => .none
  | .asks k z => .tuple [.str "asks", .tuple [.str k, .str z]]
  | .said d => .tuple [.str "said", d]
  | .fault w => .tuple [.str "fault", .str w]
structure Mac where
  rule : PyData
  own : Str
  boxes : List PyData
  asks : List Asked
  at' : Nat
  done : Nat
  st : Ms
def bxAt (bs : List PyData) (b : Nat) : PyData := bs.getD b (.str "")
def Ln.tgt : Ln → Nat
  | .text b _ | .self b | .emp b | .say b | .copy b _ | .put b _ | .join b _ | .first b _ | .rest b _ | .size b _ | .ask b _ | .has b _ | .names b _ | .cut b _ _ | .glue b _ _ | .like b _ _ | .rowed b _ | .none b _ => b
  | .go _ | .fault => 0
def madeL (bs : List PyData) (own : Str) : Ln → Option PyData
  | .text _ t => some (.str t)
  | .self _ => some (.str own)
  | .emp _ => some (.tuple [])
  | .copy _ c => some (bxAt bs c)
  | .put b c => joinedD "put" (bxAt bs b) (bxAt bs c)
  | .join b c => joinedD "join" (bxAt bs b) (bxAt bs c)
  | .cut _ c d => partedD (bxAt bs c) (bxAt bs d)
  | .glue _ c d => gluedD (bxAt bs c) (bxAt bs d)
  | .size _ c => takenD "size" (bxAt bs c)
  | .first _ c => takenD "first" (bxAt bs c)
  | .rest _ c => takenD "rest" (bxAt bs c)
  | .ask _ _ | .has _ _ | .names _ _ | .go _ | .like _ _ _ | .rowed _ _ | .none _ _ | .say _ | .fault => none
def goesL (bs : List PyData) : Ln → Bool
  | .go _ => true
  | .like b c _ => PyData.eqv (bxAt bs b) (bxAt bs c)
  | .rowed b _ => (row? (bxAt bs b)).isSome
  | .none b _ => decide (lenD (bxAt bs b) = 0)
  | _ => false
def Mac.fill (m : Mac) (b : Nat) : Option PyData → Mac
  | none => { m with done := m.done + 1, st := .fault "kind" }
  | some d => if treeOk d = true then { m with done := m.done + 1, boxes := m.boxes.set b d, at' := m.at' + 1 } else { m with done := m.done + 1, st := .fault "big" }
def Mac.bad (m : Mac) (w : Str) : Mac := { m with done := m.done + 1, st := .fault w }
def Mac.jump (m : Mac) (c : Bool) (n : Nat) : Mac := { m with done := m.done + 1, at' := if c = true then n - 1 else m.at' + 1 }
def Mac.wait (m : Mac) (k : Str) (d : PyData) : Mac := match txt? d with
  | some z => if k = "names" ∨ nameOk z = true then { m with st := .asks k z } else m.bad "name"
  | none => m.bad (if k = "names" then "kind" else "name")
def Mac.step (m : Mac) : Ln → Mac
  | .ask _ c => m.wait "thing" (bxAt m.boxes c)
  | .has _ c => m.wait "has" (bxAt m.boxes c)
  | .names _ c => m.wait "names" (bxAt m.boxes c)
  | .say b => { m with done := m.done + 1, st := .said (bxAt m.boxes b) }
  | .fault => m.bad "told"
  | .go n => m.jump true n
  | .like b c n => m.jump (goesL m.boxes (.like b c n)) n
  | .rowed b n => m.jump (goesL m.boxes (.rowed b n)) n
  | .none b n => m.jump (goesL m.boxes (.none b n)) n
  | .text b t => m.fill b (madeL m.boxes m.own (.text b t))
  | .self b => m.fill b (madeL m.boxes m.own (.self b))
  | .emp b => m.fill b (madeL m.boxes m.own (.emp b))
  | .copy b c => m.fill b (madeL m.boxes m.own (.copy b c))
  | .put b c => m.fill b (madeL m.boxes m.own (.put b c))
  | .join b c => m.fill b (madeL m.boxes m.own (.join b c))
  | .first b c => m.fill b (madeL m.boxes m.own (.first b c))
  | .rest b c => m.fill b (madeL m.boxes m.own (.rest b c))
  | .size b c => m.fill b (madeL m.boxes m.own (.size b c))
  | .cut b c d => m.fill b (madeL m.boxes m.own (.cut b c d))
  | .glue b c d => m.fill b (madeL m.boxes m.own (.glue b c d))
noncomputable def Mac.goOn : Nat → Mac → Mac
  | 0, m => m
  | n + 1, m => match m.st with
    | .go => match (lnsOf m.rule)[m.at']? with
      | none => { m with st := .fault "silent" }
      | some l => if m.done = 300 then { m with st := .fault "long" } else Mac.goOn n (m.step l)
    | _ => m
def mac0 (rule : PyData) (own : Str) : Mac := ⟨rule, own, List.replicate 8 (.str ""), [], 0, 0, .go⟩
noncomputable def Mac.begin (rule : PyData) (own : Str) : Mac := (mac0 rule own).goOn 302
/-- with an answer, ahead of what it does then -/
noncomputable def Mac.take (m : Mac) (o : Option PyData) : Mac := match m.st with
  | .asks k z => match o with
    | none => { m with asks := m.asks ++ [(k, z, none)], done := m.done + 1, st := .fault "lack" }
    | some d => match (lnsOf m.rule)[m.at']? with
      | some l => Mac.fill { m with asks := m.asks ++ [(k, z, some d)], st := .go } l.tgt (some d)
      | none => m
  | _ => m
noncomputable def Mac.answer (m : Mac) (o : Option PyData) : Mac := (m.take o).goOn 302
/-! ### what stays true of it -/
def faults : List Str := ["told", "kind", "name", "lack", "big", "silent", "long"]
def ansOk (kind : Str) (o : Option PyData) : Prop :=
  (kind = "thing" ∧ ∀ d, o = some d → treeOk d = true) ∨ (kind = "has" ∧ (o = some (.str "yes") ∨ o = some (.str "no"))) ∨ (kind = "names" ∧ ∃ ns : List Str, o = some (.tuple (ns.map .str)) ∧ treeOk (.tuple (ns.map .str)) = true ∧ ∀ n ∈ ns, nameOk n = true)
/-- an ask that a machine may do -/
def askOk (k z : Str) : Prop := (k = "thing" ∧ nameOk z = true) ∨ (k = "has" ∧ nameOk z = true) ∨ (k = "names" ∧ treeOk (.str z) = true)
structure MacOk (m : Mac) : Prop where
  rule : isRule m.rule = true
  own : nameOk m.own = true
  len : m.boxes.length = 8
  box : ∀ d ∈ m.boxes, treeOk d = true
  at' : m.at' ≤ (lnsOf m.rule).length
  done : m.done ≤ 300
  asks : m.asks.length ≤ m.done
  ask : ∀ a ∈ m.asks, askOk a.1 a.2.1 ∧ ansOk a.1 a.2.2
  st : match m.st with
    | .go => True
    | .asks k z => m.done < 300 ∧ askOk k z ∧ ∃ l c, (lnsOf m.rule)[m.at']? = some l ∧ (l = .ask l.tgt c ∨ l = .has l.tgt c ∨ l = .names l.tgt c) ∧ l.tgt < 8
    | .said d => treeOk d = true
    | .fault w => w ∈ faults
theorem name_tree {z : Str} (h : nameOk z = true) : treeOk (.str z) = true := by
  have h1 := nameOk_len h
  refine GoodT.ok (n := 1) (m := 25) ⟨?_, ?_, ?_⟩ (by decide) (by decide)
  · simp only [good, Bool.and_eq_true, decide_eq_true_eq, List.all_eq_true]
    refine ⟨by omega, fun c hc => ?_⟩
    have := nameOk_all h hc
    simp only [plainC, Bool.or_eq_true, Bool.and_eq_true, decide_eq_true_eq]
    have : c ≠ 37 := by omega
    omega
  · simp [tdeep]
  · simp only [tsize]; omega
theorem bxAt_ok {bs : List PyData} {b : Nat} (h : ∀ d ∈ bs, treeOk d = true) : treeOk (bxAt bs b) = true := by
  unfold bxAt
  rw [List.getD_eq_getElem?_getD]
  cases e : bs[b]? with
  | none => exact (by decide : treeOk (.str "") = true)
  | some d => exact h d (List.mem_of_getElem? e)
theorem fill_ok {m : Mac} (h : MacOk m) (hs : m.st = .go) (hd : m.done < 300) (b : Nat) (ha : m.at' < (lnsOf m.rule).length) (o : Option PyData) : MacOk (m.fill b o) := by
  unfold Mac.fill
  cases o with
  | none => exact ⟨h.rule, h.own, h.len, h.box, h.at', by show m.done + 1 ≤ 300; omega, Nat.le_succ_of_le h.asks, h.ask, by show _ ∈ faults; decide +kernel⟩
  | some d =>
    dsimp only
    split
    · rename_i k
      refine ⟨h.rule, h.own, by show (m.boxes.set b d).length = 8; rw [List.length_set]; exact h.len, fun e he => ?_, Nat.succ_le_of_lt ha, by show m.done + 1 ≤ 300; omega, Nat.le_succ_of_le h.asks, h.ask, ?_⟩
      · rcases List.mem_or_eq_of_mem_set he with h1 | h1
        · exact h.box e h1
        · rw [h1]; exact k
      · show (match m.st with | .go => True | .asks k z => _ | .said d => _ | .fault w => _)
        rw [hs]
        trivial
    · exact ⟨h.rule, h.own, h.len, h.box, h.at', by show m.done + 1 ≤ 300; omega, Nat.le_succ_of_le h.asks, h.ask, by show _ ∈ faults; decide +kernel⟩
theorem bad_ok {m : Mac} (h : MacOk m) (hd : m.done < 300) {w : Str} (hw : w ∈ faults) : MacOk (m.bad w) :=
  ⟨h.rule, h.own, h.len, h.box, h.at', by show m.done + 1 ≤ 300; omega, Nat.le_succ_of_le h.asks, h.ask, hw⟩
theorem jump_ok {m : Mac} (h : MacOk m) (hs : m.st = .go) (hd : m.done < 300) (ha : m.at' < (lnsOf m.rule).length) (c : Bool) {n : Nat} (hn : 1 ≤ n ∧ n ≤ (lnsOf m.rule).length) : MacOk (m.jump c n) := by
  refine ⟨h.rule, h.own, h.len, h.box, ?_, by show m.done + 1 ≤ 300; omega, Nat.le_succ_of_le h.asks, h.ask, ?_⟩
  · show (if c = true then n - 1 else m.at' + 1) ≤ (lnsOf m.rule).length
    split <;> omega
  · show (match m.st with | .go => True | .asks k z => _ | .said d => _ | .fault w => _)
    rw [hs]
    trivial
theorem wait_ok {m : Mac} (h : MacOk m) (hd : m.done < 300) {k : Str} (hk : k = "thing" ∨ k = "has" ∨ k = "names") {d : PyData} (hd2 : treeOk d = true) {l : Ln} {c : Nat} (hl : (lnsOf m.rule)[m.at']? = some l) (hl2 : l = .ask l.tgt c ∨ l = .has l.tgt c ∨ l = .names l.tgt c) (ht : l.tgt < 8) : MacOk (m.wait k d) := by
  unfold Mac.wait
  cases e : txt? d with
  | none => exact bad_ok h hd (by split <;> decide +kernel)
  | some z =>
    dsimp only
    have hz : d = .str z := by cases d <;> cases e; rfl
    split
    · rename_i q
      refine ⟨h.rule, h.own, h.len, h.box, h.at', h.done, h.asks, h.ask, ?_⟩
      show m.done < 300 ∧ askOk k z ∧ ∃ l c, (lnsOf m.rule)[m.at']? = some l ∧ (l = .ask l.tgt c ∨ l = .has l.tgt c ∨ l = .names l.tgt c) ∧ l.tgt < 8
      refine ⟨hd, ?_, l, c, hl, hl2, ht⟩
      rcases hk with rfl | rfl | rfl
      · rcases q with q | q
        · exact absurd q (by decide)
        · exact .inl ⟨rfl, q⟩
      · rcases q with q | q
        · exact absurd q (by decide)
        · exact .inr (.inl ⟨rfl, q⟩)
      · exact .inr (.inr ⟨rfl, hz ▸ hd2⟩)
    · exact bad_ok h hd (by decide +kernel)
theorem step_ok {m : Mac} (h : MacOk m) (hs : m.st = .go) (hd : m.done ≠ 300) {l : Ln} (hl : (lnsOf m.rule)[m.at']? = some l) : MacOk (m.step l) := by
  have hd : m.done < 300 := by have := h.done; omega
  have ha : m.at' < (lnsOf m.rule).length := (List.getElem?_eq_some_iff.mp hl).1
  have hok := (lnsOf_ok h.rule).2.2.2 l (List.mem_of_getElem? hl)
  cases l with
  | ask b c => exact wait_ok h hd (.inl rfl) (bxAt_ok h.box) hl (c := c) (.inl rfl) hok.1
  | has b c => exact wait_ok h hd (.inr (.inl rfl)) (bxAt_ok h.box) hl (c := c) (.inr (.inl rfl)) hok.1
  | names b c => exact wait_ok h hd (.inr (.inr rfl)) (bxAt_ok h.box) hl (c := c) (.inr (.inr rfl)) hok.1
  | say b => exact ⟨h.rule, h.own, h.len, h.box, h.at', by show m.done + 1 ≤ 300; omega, Nat.le_succ_of_le h.asks, h.ask, bxAt_ok h.box⟩
  | fault => exact bad_ok h hd (by decide +kernel)
  | go n => exact jump_ok h hs hd ha _ hok
  | like b c n => exact jump_ok h hs hd ha _ hok.2.2
  | rowed b n => exact jump_ok h hs hd ha _ hok.2
  | none b n => exact jump_ok h hs hd ha _ hok.2
  | text b t => exact fill_ok h hs hd b ha (madeL m.boxes m.own (.text b t))
  | self b => exact fill_ok h hs hd b ha (madeL m.boxes m.own (.self b))
  | emp b => exact fill_ok h hs hd b ha (madeL m.boxes m.own (.emp b))
  | copy b c => exact fill_ok h hs hd b ha (madeL m.boxes m.own (.copy b c))
  | put b c => exact fill_ok h hs hd b ha (madeL m.boxes m.own (.put b c))
  | join b c => exact fill_ok h hs hd b ha (madeL m.boxes m.own (.join b c))
  | first b c => exact fill_ok h hs hd b ha (madeL m.boxes m.own (.first b c))
  | rest b c => exact fill_ok h hs hd b ha (madeL m.boxes m.own (.rest b c))
  | size b c => exact fill_ok h hs hd b ha (madeL m.boxes m.own (.size b c))
  | cut b c d => exact fill_ok h hs hd b ha (madeL m.boxes m.own (.cut b c d))
  | glue b c d => exact fill_ok h hs hd b ha (madeL m.boxes m.own (.glue b c d))
theorem fill_done (m : Mac) (b : Nat) (o : Option PyData) : (m.fill b o).done = m.done + 1 := by
  unfold Mac.fill
  cases o with
  | none => rfl
  | some d => dsimp only; split <;> rfl
theorem wait_done (m : Mac) (k : Str) (d : PyData) (h : (m.wait k d).st = .go) (hs : m.st = .go) : (m.wait k d).done = m.done + 1 := by
  unfold Mac.wait at h ⊢
  cases e : txt? d with
  | none => rfl
  | some z =>
    rw [e] at h
    dsimp only at h ⊢
    split
    · rename_i q
      rw [if_pos q] at h
      cases h
    · rfl
theorem step_done {m : Mac} (hs : m.st = .go) (l : Ln) (h : (m.step l).st = .go) : (m.step l).done = m.done + 1 := by
  cases l with
  | ask b c => exact wait_done m _ _ h hs
  | has b c => exact wait_done m _ _ h hs
  | names b c => exact wait_done m _ _ h hs
  | say b => rfl
  | fault => rfl
  | go n => rfl
  | like b c n => rfl
  | rowed b n => rfl
  | none b n => rfl
  | _ => exact fill_done _ _ _
theorem fill_rule (m : Mac) (b : Nat) (o : Option PyData) : (m.fill b o).rule = m.rule ∧ (m.fill b o).own = m.own ∧ (m.fill b o).asks = m.asks := by
  unfold Mac.fill
  cases o with
  | none => exact ⟨rfl, rfl, rfl⟩
  | some d => dsimp only; split <;> exact ⟨rfl, rfl, rfl⟩
theorem wait_rule (m : Mac) (k : Str) (d : PyData) : (m.wait k d).rule = m.rule ∧ (m.wait k d).own = m.own ∧ (m.wait k d).asks = m.asks := by
  unfold Mac.wait
  cases txt? d with
  | none => exact ⟨rfl, rfl, rfl⟩
  | some z => dsimp only; split <;> exact ⟨rfl, rfl, rfl⟩
theorem step_rule (m : Mac) (l : Ln) : (m.step l).rule = m.rule ∧ (m.step l).own = m.own ∧ (m.step l).asks = m.asks := by
  cases l with
  | ask b c => exact wait_rule m _ _
  | has b c => exact wait_rule m _ _
  | names b c => exact wait_rule m _ _
  | say b => exact ⟨rfl, rfl, rfl⟩
  | fault => exact ⟨rfl, rfl, rfl⟩
  | go n => exact ⟨rfl, rfl, rfl⟩
  | like b c n => exact ⟨rfl, rfl, rfl⟩
  | rowed b n => exact ⟨rfl, rfl, rfl⟩
  | none b n => exact ⟨rfl, rfl, rfl⟩
  | _ => exact fill_rule _ _ _
theorem goOn_ok : ∀ (n : Nat) {m : Mac}, MacOk m → MacOk (m.goOn n)
  | 0, _, h => h
  | n + 1, m, h => by
    unfold Mac.goOn
    split
    · rename_i hs
      split
      · exact ⟨h.rule, h.own, h.len, h.box, h.at', h.done, h.asks, h.ask, by show _ ∈ faults; decide +kernel⟩
      · rename_i l hl
        split
        · exact ⟨h.rule, h.own, h.len, h.box, h.at', h.done, h.asks, h.ask, by show _ ∈ faults; decide +kernel⟩
        · rename_i hd
          exact goOn_ok n (step_ok h hs hd hl)
    · exact h
theorem goOn_end : ∀ (n : Nat) {m : Mac}, m.done ≤ 300 → (m.st = .go → 302 ≤ n + m.done) → MacOk m → (m.goOn n).st ≠ .go
  | 0, m, h, hn, _ => fun e => by have := hn e; omega
  | n + 1, m, h, hn, hk => by
    unfold Mac.goOn
    split
    · rename_i hs
      have hn := hn hs
      split
      · intro e; cases e
      · rename_i l hl
        split
        · intro e; cases e
        · rename_i hd
          have hk2 := step_ok hk hs hd hl
          exact goOn_end n hk2.done (fun e => by rw [step_done hs l e]; omega) hk2
    · rename_i hs
      exact hs
theorem goOn_rule : ∀ (n : Nat) (m : Mac), (m.goOn n).rule = m.rule ∧ (m.goOn n).own = m.own ∧ (m.goOn n).asks = m.asks
  | 0, _ => ⟨rfl, rfl, rfl⟩
  | n + 1, m => by
    unfold Mac.goOn
    split
    · split
      · exact ⟨rfl, rfl, rfl⟩
      · split
        · exact ⟨rfl, rfl, rfl⟩
        · rename_i l _ _
          obtain ⟨a, b, c⟩ := goOn_rule n (m.step l)
          obtain ⟨a', b', c'⟩ := step_rule m l
          exact ⟨a.trans a', b.trans b', c.trans c'⟩
    · exact ⟨rfl, rfl, rfl⟩
theorem mac0_ok {rule : PyData} {own : Str} (h : isRule rule = true) (ho : nameOk own = true) : MacOk (mac0 rule own) :=
  ⟨h, ho, rfl, fun d hd => by rw [List.eq_of_mem_replicate hd]; decide, Nat.zero_le _, Nat.zero_le _, Nat.le_refl _, fun a ha => (List.not_mem_nil ha).elim, trivial⟩
theorem begin_ok {rule : PyData} {own : Str} (h : isRule rule = true) (ho : nameOk own = true) : MacOk (Mac.begin rule own) := goOn_ok _ (mac0_ok h ho)
theorem begin_end {rule : PyData} {own : Str} (h : isRule rule = true) (ho : nameOk own = true) : (Mac.begin rule own).st ≠ .go := goOn_end _ (Nat.zero_le _) (fun _ => by show 302 ≤ 302 + 0; omega) (mac0_ok h ho)
theorem take_ok {m : Mac} (h : MacOk m) {k z : Str} (hs : m.st = .asks k z) {o : Option PyData} (ha : ansOk k o) : MacOk (m.take o) ∧ (m.take o).done = m.done + 1 ∧ (m.take o).asks = m.asks ++ [(k, z, o)] ∧ (m.take o).rule = m.rule ∧ (m.take o).own = m.own := by
  have hst := h.st
  rw [hs] at hst
  obtain ⟨hd, hk, l, c, hl, hlk, ht⟩ := hst
  have hask : ∀ a ∈ m.asks ++ [(k, z, o)], askOk a.1 a.2.1 ∧ ansOk a.1 a.2.2 := by
    intro a h1
    rcases List.mem_append.mp h1 with h1 | h1
    · exact h.ask a h1
    · rw [List.mem_singleton.mp h1]; exact ⟨hk, ha⟩
  have hln : (m.asks ++ [(k, z, o)]).length ≤ m.done + 1 := by rw [List.length_append]; have := h.asks; show m.asks.length + 1 ≤ _; omega
  unfold Mac.take
  rw [hs]
  cases o with
  | none => exact ⟨⟨h.rule, h.own, h.len, h.box, h.at', by show m.done + 1 ≤ 300; omega, hln, hask, by show _ ∈ faults; decide +kernel⟩, rfl, rfl, rfl, rfl⟩
  | some d =>
    rw [hl]
    dsimp only
    have hla : m.at' < (lnsOf m.rule).length := (List.getElem?_eq_some_iff.mp hl).1
    have htd : treeOk d = true := by
      rcases ha with ⟨_, h1⟩ | ⟨_, h1⟩ | ⟨_, ns, h1, h2, _⟩
      · exact h1 d rfl
      · rcases h1 with h1 | h1 <;> rw [Option.some.inj h1] <;> decide +kernel
      · rw [Option.some.inj h1]; exact h2
    unfold Mac.fill
    dsimp only
    rw [if_pos htd]
    refine ⟨⟨h.rule, h.own, by show (m.boxes.set _ d).length = 8; rw [List.length_set]; exact h.len, fun e he => ?_, Nat.succ_le_of_lt hla, by show m.done + 1 ≤ 300; omega, hln, hask, trivial⟩, rfl, rfl, rfl, rfl⟩
    rcases List.mem_or_eq_of_mem_set he with h1 | h1
    · exact h.box e h1
    · rw [h1]; exact htd
theorem answer_ok {m : Mac} (h : MacOk m) {k z : Str} (hs : m.st = .asks k z) {o : Option PyData} (ha : ansOk k o) : MacOk (m.answer o) ∧ (m.answer o).st ≠ .go ∧ (m.answer o).asks = m.asks ++ [(k, z, o)] ∧ (m.answer o).rule = m.rule ∧ (m.answer o).own = m.own := by
  obtain ⟨h1, h2, h3, h4, h5⟩ := take_ok h hs ha
  obtain ⟨r1, r2, r3⟩ := goOn_rule 302 (m.take o)
  exact ⟨goOn_ok _ h1, goOn_end _ h1.done (fun _ => by omega) h1, r3.trans h3, r1.trans h4, r2.trans h5⟩
end Aw

namespace Aw
open PySem PySem.Spec PyProof.Rows L2
/-! ### what stays but for some objects -/
def Fr (S : List Addr) (H H' : Hp) : Prop := ∀ c o, c ∉ S → H c = some o → H' c = some o
theorem Fr.refl (S : List Addr) (H : Hp) : Fr S H H := fun _ _ _ e => e
theorem Fr.same {S : List Addr} {H H' : Hp} (h : Same H H') : Fr S H H' := fun c o _ e => h c o e
theorem Fr.trans {S : List Addr} {H H1 H2 : Hp} (a : Fr S H H1) (b : Fr S H1 H2) : Fr S H H2 := fun c o n e => b c o n (a c o n e)
theorem Fr.bt {S : List Addr} {H H' : Hp} {l : Addr} (h : Bt l H H') (hl : l ∈ S) : Fr S H H' := fun c o n e => h c o (fun q => n (q ▸ hl)) e
theorem Fr.same_of {S : List Addr} {H0 H H' : Hp} (a : Same H0 H) (hn : ∀ l ∈ S, H0 l = none) (f : Fr S H H') : Same H0 H' := fun c o e => f c o (fun q => by rw [hn c q] at e; cases e) (a c o e)
theorem Fr.sub {S T : List Addr} {H H' : Hp} (h : Fr S H H') (k : ∀ a ∈ S, a ∈ T) : Fr T H H' := fun c o n e => h c o (fun q => n (k c q)) e
/-- an object that is no part of S -/
theorem Fr.ne {S : List Addr} {H H' : Hp} (f : Fr S H H') {c : Addr} {o : HO} (e : H c = some o) (hn : ∀ l ∈ S, ∃ u, H l = some u ∧ u ≠ o) : H' c = some o := f c o (fun q => by
  obtain ⟨u, eu, nu⟩ := hn c q
  rw [e] at eu
  exact nu (Option.some.inj eu).symm) e
/-! ### texts told apart -/
theorem iteST {a b : Str} {A B : Prop} (h : a = b) (p : A) : if decide (V.str a = V.str b) = true then A else B := by rw [decS, decide_eq_true h]; exact p
theorem iteSF {a b : Str} {A B : Prop} (h : a ≠ b) (p : B) : if decide (V.str a = V.str b) = true then A else B := by rw [decS, decide_eq_false h]; exact p
theorem iteNST {a b : Str} {A B : Prop} (h : a = b) (p : B) : if (!decide (V.str a = V.str b)) = true then A else B := by rw [decS, decide_eq_true h]; exact p
theorem iteNSF {a b : Str} {A B : Prop} (h : a ≠ b) (p : A) : if (!decide (V.str a = V.str b)) = true then A else B := by rw [decS, decide_eq_false h]; exact p
theorem iteDR {v : V} {A B : Prop} (p : A) : if decide (v = v) = true then A else B := by rw [decide_eq_true rfl]; exact p
theorem iteDV {v : V} {A B : Prop} (h : ¬ v = .non) (p : B) : if decide (v = .non) = true then A else B := by rw [decide_eq_false h]; exact p
theorem iteNDR {v : V} {A B : Prop} (p : B) : if (!decide (v = v)) = true then A else B := by rw [decide_eq_true rfl]; exact p
theorem iteNDV {v : V} {A B : Prop} (h : ¬ v = .non) (p : A) : if (!decide (v = .non)) = true then A else B := by rw [decide_eq_false h]; exact p
theorem iteRN {a : Addr} {A B : Prop} (p : B) : if decide (V.ref a = .non) = true then A else B := iteDV (fun z => by cases z) p
theorem iteSN {a : Str} {A B : Prop} (p : B) : if decide (V.str a = .non) = true then A else B := iteDV (fun z => by cases z) p
theorem iteNRN {a : Addr} {A B : Prop} (p : A) : if (!decide (V.ref a = .non)) = true then A else B := iteNDV (fun z => by cases z) p
theorem iteNSN {a : Str} {A B : Prop} (p : A) : if (!decide (V.str a = .non)) = true then A else B := iteNDV (fun z => by cases z) p
theorem iteI1 {v : V} {A B : Prop} (p : A) : if (some v).isSome = true then A else B := p
theorem iteI2 {A B : Prop} (p : B) : if (none : Option V).isSome = true then A else B := p
theorem iteI3 {v : V} {A B : Prop} (p : B) : if (!(some v).isSome) = true then A else B := p
theorem iteI4 {A B : Prop} (p : A) : if (!(none : Option V).isSome) = true then A else B := p
/-! ### o.f += e -/
section
variable {K : PySem.W.Frag} {X : Cx} {o value e f' : Expr} {f : Str} {pos tpos apos cpos : Pos} {ta tv td ty tx : TE} {σ : L2.St} {H : Hp} {D : Ends} {Q : VK}
theorem ps_fldaugU (K : PySem.W.Frag) {op : Operator} {rd : V → V → Hp → VK → Prop} (ha : PE X o ta) (hv : PE X value tv) (hop : InOp X op rd) (h : X.K = K := by rfl) : PS X (.AugAssign (.Attribute o f tpos) op value pos) (sFldAug K ta tv rd f) := h ▸ ps_fldaug ha hv hop
def FAK (K : PySem.W.Frag) (f : Str) (tv : TE) (rd : V → V → Hp → VK → Prop) (D : Ends) (σ : L2.St) (x : V) (H1 : Hp) : Prop := ∃ a C dx fs v, x = .ref a ∧ H1 a = some (.ins C dx fs) ∧ Cls K C ∧ NoAttr K C f ∧ fs.lookup f = some v ∧
  tv σ H1 fun y H2 => rd v y H2 fun z H3 => ∃ dx' fs', H3 a = some (.ins C dx' fs') ∧ fs'.length < 1000 ∧ D.nx σ (upd H3 a (.ins C dx' (putF f z fs')))
theorem i_faug {rd : V → V → Hp → VK → Prop} (h : ta σ H fun x H1 => FAK K f tv rd D σ x H1) : sFldAug K ta tv rd f D σ H := h
theorem i_fak {a C dx : Addr} {fs : List (Str × V)} {i j : Int} (e : H a = some (.ins C dx fs)) (c : Cls K C) (n : NoAttr K C f) (l : fs.lookup f = some (.int i)) (hl : fs.length < 1000) (q : ∀ H', Bt a H H' → H' a = some (.ins C dx (putF f (.int (i + j)) fs)) → D.nx σ H') : FAK K f (tC (.int j)) rAdd D σ (.ref a) H :=
  ⟨a, C, dx, fs, .int i, rfl, e, c, n, l, i, j, rfl, rfl, dx, fs, e, hl, q _ Bt.upd upd_same⟩
/-! ### d.get(k, x) -/
def DG2K (y z x : V) (H3 : Hp) (Q : VK) : Prop := ∃ a o, x = .ref a ∧ DGet H3 a y o ∧ Q (o.getD z) H3
theorem i_dg2 {a : Addr} {kvs : List (Key × V)} {v : V} (hx : td σ H fun x H1 => x = .ref a ∧ (∃ kvs, H1 a = some (.dK kvs)) ∧ ty σ H1 fun y H2 => tx σ H2 fun z H3 => ∃ o, DGet H3 a y o ∧ Q (o.getD z) H3) (mono : ∀ (Q Q' : VK), (∀ v H, Q v H → Q' v H) → td σ H Q → td σ H Q') : tDGet2 td ty tx σ H Q :=
  mono _ _ (fun x H1 ⟨e, ⟨kvs, he⟩, h⟩ => ⟨a, e, .inl ⟨kvs, .inl he⟩, h⟩) hx
def DG2 (ty tx : TE) (σ : L2.St) (Q : VK) (x : V) (H1 : Hp) : Prop := ∃ a, x = .ref a ∧ IsD H1 a ∧ ty σ H1 fun y H2 => tx σ H2 fun z H3 => ∃ o, DGet H3 a y o ∧ Q (o.getD z) H3
theorem i_dget2 (h : td σ H fun x H1 => DG2 ty tx σ Q x H1) : tDGet2 td ty tx σ H Q := h
def DGO (a : Addr) (y z : V) (H3 : Hp) (Q : VK) : Prop := ∃ o, DGet H3 a y o ∧ Q (o.getD z) H3
theorem i_dg {a : Addr} {kvs : List (Key × V)} (e : H a = some (.dK kvs)) (h : ty σ H fun y H2 => tx σ H2 fun z H3 => DGO a y z H3 Q) : DG2 ty tx σ Q (.ref a) H := ⟨a, rfl, .inl ⟨kvs, .inl e⟩, h⟩
theorem i_dgo {a : Addr} {kvs : List (Key × V)} {z : Str} {x : V} (e : H a = some (.dK kvs)) (q : Q ((valV kvs (Sum.inr z : Key)).getD x) H) : DGO a (.str z) x H Q := ⟨_, DGet.k (k := Sum.inr z) e, q⟩
/-! ### written dicts -/
def KIK (K : PySem.W.Frag) (w : World) (y x : V) (H2 : Hp) (Q : VK) : Prop := ∃ a kvs k, x = .ref a ∧ KDk K w a kvs ∧ y = .str k ∧ Q (.bl (kvs.lookup k).isSome) H2
theorem i_kin {w : World} (h : ty σ H fun y H1 => td σ H1 fun x H2 => KIK K w y x H2 Q) : tKIn K w ty td σ H Q := h
theorem i_kik {w : World} {a : Addr} {kvs : List (Str × V)} {k : Str} (d : KDk K w a kvs) (q : Q (.bl (kvs.lookup k).isSome) H) : KIK K w (.str k) (.ref a) H Q := ⟨a, kvs, k, rfl, d, rfl, q⟩
def KXK (K : PySem.W.Frag) (w : World) (x y : V) (H2 : Hp) (Q : VK) : Prop := ∃ a kvs k v, x = .ref a ∧ KDk K w a kvs ∧ y = .str k ∧ kvs.lookup k = some v ∧ Q v H2
theorem i_kix {w : World} (h : td σ H fun x H1 => ty σ H1 fun y H2 => KXK K w x y H2 Q) : tKIx K w td ty σ H Q := h
theorem i_kxk {w : World} {a : Addr} {kvs : List (Str × V)} {k : Str} {v : V} (d : KDk K w a kvs) (l : kvs.lookup k = some v) (q : Q v H) : KXK K w (.ref a) (.str k) H Q := ⟨a, kvs, k, v, rfl, d, rfl, l, q⟩
/-! ### xs.pop() -/
def rPopU : V → List V → Hp → VK → Prop := rPop
theorem i_pop {l : Addr} {xs : List V} {y : V} (e : H l = some (.lst (xs ++ [y]))) (q : ∀ H', Bt l H H' → H' l = some (.lst xs) → Q y H') : rPop (.ref l) [] H Q := by
  refine ⟨l, xs ++ [y], y, rfl, rfl, e, by simp, ?_⟩
  rw [List.dropLast_concat]
  exact q _ Bt.upd upd_same
theorem i_bm0 {T : String} {r : V → List V → Hp → VK → Prop} {to : TE} (h : to σ H fun x H1 => tyV K T x H1 ∧ r x [] H1 Q) : tBM0 K T r to σ H Q := h
end
/-! ### boxes -/
def boxK (bv : List V) : List (Key × V) := List.zipWith (fun b v => ((Sum.inr (bx b) : Key), v)) (List.range 8) bv
theorem lt8 {b : Nat} (h : b < 8) : b = 0 ∨ b = 1 ∨ b = 2 ∨ b = 3 ∨ b = 4 ∨ b = 5 ∨ b = 6 ∨ b = 7 := by omega
theorem box_get {bv : List V} {b : Nat} (hl : bv.length = 8) (hb : b < 8) : valV (boxK bv) (Sum.inr (bx b) : Key) = bv[b]? := by
  match bv, hl with
  | [v0, v1, v2, v3, v4, v5, v6, v7], _ => rcases lt8 hb with rfl | rfl | rfl | rfl | rfl | rfl | rfl | rfl <;> rfl
theorem box_put {bv : List V} {b : Nat} {v : V} (hl : bv.length = 8) (hb : b < 8) : putK (boxK bv) (Sum.inr (bx b) : Key) v = boxK (bv.set b v) := by
  match bv, hl with
  | [v0, v1, v2, v3, v4, v5, v6, v7], _ => rcases lt8 hb with rfl | rfl | rfl | rfl | rfl | rfl | rfl | rfl <;> rfl
theorem box_at {K : PySem.W.Frag} {H : Hp} {bs : List PyData} {bv : List V} {b : Nat} (h : Dts K H bs bv) (hl : bs.length = 8) (hb : b < 8) : ∃ v, valV (boxK bv) (Sum.inr (bx b) : Key) = some v ∧ Dt K H (bxAt bs b) v := by
  have hv : bv.length = 8 := by rw [h.length]; exact hl
  have e : bs[b]? = some (bxAt bs b) := by
    unfold bxAt
    rw [List.getD_eq_getElem?_getD, List.getElem?_eq_getElem (by omega)]
    rfl
  obtain ⟨v, ev, dv⟩ := h.at' e
  exact ⟨v, by rw [box_get hv hb]; exact ev, dv⟩
theorem Dts.set {K : PySem.W.Frag} {H : Hp} : ∀ {ds : List PyData} {vs : List V} {i : Nat} {d : PyData} {v : V}, Dts K H ds vs → Dt K H d v → Dts K H (ds.set i d) (vs.set i v)
  | [], _, _, _, _, h, _ => by rw [h.nil]; exact dts_nil
  | e :: ds, _, 0, _, _, h, q => by
    obtain ⟨u, r, rfl, p, k⟩ := h.cons
    exact dts_cons q k
  | e :: ds, _, i + 1, _, _, h, q => by
    obtain ⟨u, r, rfl, p, k⟩ := h.cons
    exact dts_cons p (Dts.set k q)
end Aw

namespace Aw
open PySem PySem.Spec PyProof.Rows L2
/-! ### what lines make: how large it may be -/
def isT : PyData → Bool
  | .str _ | .tuple _ => true
  | _ => false
theorem isT_ne {K : PySem.W.Frag} {H : Hp} {d : PyData} {v : V} (h : Dt K H d v) (t : isT d = true) : ¬ v = .non := by
  intro e
  cases d with
  | str z => rw [h.str] at e; cases e
  | tuple ds => obtain ⟨a, _, ea, _⟩ := h.tup; rw [ea] at e; cases e
  | _ => cases t
theorem isT_good {d : PyData} (h : good d = true) : isT d = true := by cases d <;> first | rfl | simp [good] at h
theorem inter_len2 (z : List Nat) (hz : z ≠ []) : ∀ ps : List (List Nat), ps.length ≤ (inter z ps).length + 1 ∧ ∀ p ∈ ps, p.length ≤ (inter z ps).length
  | [] => ⟨Nat.zero_le _, by simp⟩
  | [p] => ⟨by simp, by simp [inter]⟩
  | p :: q :: r => by
    obtain ⟨h1, h2⟩ := inter_len2 z hz (q :: r)
    have hz1 : 1 ≤ z.length := by cases z with | nil => exact absurd rfl hz | cons a b => simp
    simp only [inter, List.length_append, List.length_cons] at h1 h2 ⊢
    refine ⟨by omega, fun x hx => ?_⟩
    rcases List.mem_cons.mp hx with rfl | hx
    · omega
    · have := h2 x hx; omega
theorem split_len {s z : Str} (hz : z.length ≠ 0) : (Txt.split s z).length ≤ s.length + 1 ∧ ∀ p ∈ Txt.split s z, p.length ≤ s.length := by
  have h1 := PySem.StrLaws.join_split s z
  rw [← join_eq] at h1
  have h2 := congrArg (fun z : Str => z.cps.toList) h1
  rw [join_list] at h2
  have h0 : z.cps.toList ≠ [] := fun e => hz (by rw [← len_list, e]; rfl)
  obtain ⟨k1, k2⟩ := inter_len2 z.cps.toList h0 ((Txt.split s z).map (·.cps.toList))
  have e : (inter z.cps.toList ((Txt.split s z).map (·.cps.toList))).length = s.length := by rw [show inter z.cps.toList ((Txt.split s z).map (·.cps.toList)) = s.cps.toList from h2, len_list]
  rw [e, List.length_map] at k1
  rw [e] at k2
  exact ⟨k1, fun p hp => by have := k2 _ (List.mem_map_of_mem hp); rw [len_list] at this; exact this⟩
theorem lims_strs {ys : List Str} (h : ∀ y ∈ ys, y.length ≤ 100000) : lims (ys.map .str) = true := by
  induction ys with
  | nil => rfl
  | cons y r ih =>
    simp only [List.map_cons, lims, lim, Bool.and_eq_true, decide_eq_true_eq]
    exact ⟨h y (List.mem_cons_self ..), ih fun z hz => h z (List.mem_cons_of_mem _ hz)⟩
theorem lims_app {ds es : List PyData} (h : lims ds = true) (k : lims es = true) : lims (ds ++ es) = true := by
  induction ds with
  | nil => exact k
  | cons d r ih =>
    simp only [List.cons_append, lims, Bool.and_eq_true] at h ⊢
    exact ⟨h.1, ih h.2⟩
theorem num_len : ∀ n : Nat, n < 400 → (Str.ofString (toString (n : Int))).length ≤ 3 := by
  have h : ∀ n : Fin 400, (Str.ofString (toString ((n : Nat) : Int))).length ≤ 3 := by decide +kernel
  exact fun n hn => h ⟨n, hn⟩
theorem lenD_good {d : PyData} (h : good d = true) : lenD d ≤ 300 := by
  cases d with
  | str z => simp only [good, Bool.and_eq_true, decide_eq_true_eq] at h; exact h.1
  | tuple ds => simp only [good, Bool.and_eq_true, decide_eq_true_eq] at h; show ds.length ≤ 300; omega
  | _ => simp [good] at h
theorem joined_lim {w : Str} {a b d : PyData} (ha : good a = true) (hb : good b = true) (h : joinedD w a b = some d) : lim d = true ∧ isT d = true := by
  unfold joinedD at h
  cases a with
  | tuple ds =>
    have h : (if w = "put" then some (PyData.tuple (ds ++ [b])) else none) = some d := h
    split at h
    · rw [← Option.some.inj h]
      simp only [good, Bool.and_eq_true, decide_eq_true_eq] at ha
      refine ⟨?_, rfl⟩
      simp only [lim, Bool.and_eq_true, decide_eq_true_eq]
      refine ⟨by rw [List.length_append]; show ds.length + 1 ≤ _; omega, lims_app (lims_good _ ha.2) ?_⟩
      simp only [lims, lim_good b hb, Bool.true_and]
    · cases h
  | str x =>
    cases b with
    | str y =>
      have h : (if w = "join" then some (PyData.str (x ++ y)) else none) = some d := h
      split at h
      · rw [← Option.some.inj h]
        simp only [good, Bool.and_eq_true, decide_eq_true_eq] at ha hb
        refine ⟨?_, rfl⟩
        simp only [lim, decide_eq_true_eq]
        rw [app_len]
        omega
      · cases h
    | _ => cases h
  | _ => simp [good] at ha
theorem parted_lim {a b d : PyData} (ha : good a = true) (hb : good b = true) (h : partedD a b = some d) : lim d = true ∧ isT d = true := by
  unfold partedD at h
  cases a with
  | str x =>
    cases b with
    | str y =>
      have h : (if y.length = 0 then none else some (PyData.tuple ((Txt.split x y).map .str))) = some d := h
      split at h
      · cases h
      · rename_i hy
        rw [← Option.some.inj h]
        simp only [good, Bool.and_eq_true, decide_eq_true_eq] at ha
        obtain ⟨k1, k2⟩ := split_len (s := x) hy
        refine ⟨?_, rfl⟩
        simp only [lim, Bool.and_eq_true, decide_eq_true_eq, List.length_map]
        exact ⟨by omega, lims_strs fun p hp => by have := k2 p hp; omega⟩
    | _ => cases h
  | _ => cases h
theorem glued_lim {a b d : PyData} (ha : good a = true) (hs : tsize a ≤ 600) (hb : good b = true) (h : gluedD a b = some d) : lim d = true ∧ isT d = true := by
  unfold gluedD at h
  cases a with
  | tuple ds =>
    cases b with
    | str y =>
      have h : ((txts ds).map fun ys => PyData.str (Txt.join y ys)) = some d := h
      cases e : txts ds with
      | none => rw [e] at h; cases h
      | some ys =>
        rw [e] at h
        rw [← Option.some.inj h]
        simp only [good, Bool.and_eq_true, decide_eq_true_eq] at ha hb
        simp only [tsize] at hs
        obtain ⟨k1, k2⟩ := txts_len e
        refine ⟨?_, rfl⟩
        simp only [lim, decide_eq_true_eq]
        have h3 := inter_length y.cps.toList (ys.map (·.cps.toList))
        rw [← join_list, len_list, List.map_map, List.length_map, len_list] at h3
        have h4 : (List.map (List.length ∘ fun x : Str => x.cps.toList) ys) = ys.map (·.length) := by
          apply List.map_congr_left
          intro z _
          exact len_list z
        rw [h4] at h3
        have h5 := Nat.mul_le_mul (show ys.length ≤ 40 by omega) hb.1
        omega
    | _ => simp [txt?, row?] at h
  | _ => simp [txt?, row?] at h
theorem taken_lim {w : Str} {a d : PyData} (ha : good a = true) (h : takenD w a = some d) : lim d = true ∧ isT d = true := by
  unfold takenD at h
  split at h
  · rw [← Option.some.inj h]
    refine ⟨?_, rfl⟩
    simp only [lim, decide_eq_true_eq]
    have := num_len (lenD a) (by have := lenD_good ha; omega)
    omega
  · cases a with
    | str x =>
      have h : (match x.cps.toList with | [] => none | c :: r => some (PyData.str (if w = "first" then S [c] else S r))) = some d := h
      simp only [good, Bool.and_eq_true, decide_eq_true_eq] at ha
      cases e : x.cps.toList with
      | nil => rw [e] at h; cases h
      | cons c r =>
        rw [e] at h
        rw [← Option.some.inj h]
        have hl : x.length = r.length + 1 := by rw [← len_list, e]; rfl
        refine ⟨?_, rfl⟩
        simp only [lim, decide_eq_true_eq]
        split
        · rw [S_len]; show 1 ≤ _; omega
        · rw [S_len]; omega
    | tuple ds =>
      simp only [good, Bool.and_eq_true, decide_eq_true_eq] at ha
      cases ds with
      | nil => cases h
      | cons e r =>
        have h : some (if w = "first" then e else PyData.tuple r) = some d := h
        rw [← Option.some.inj h]
        simp only [goods, Bool.and_eq_true, List.length_cons] at ha
        split
        · exact ⟨lim_good _ ha.2.1, isT_good ha.2.1⟩
        · refine ⟨?_, rfl⟩
          simp only [lim, Bool.and_eq_true, decide_eq_true_eq]
          exact ⟨by omega, lims_good _ ha.2.2⟩
    | _ => simp [good] at ha
theorem tree_lim {d : PyData} (h : treeOk d = true) : lim d = true ∧ isT d = true := ⟨lim_good d (treeOk_good h).g, isT_good (treeOk_good h).g⟩
theorem made_lim {bs : List PyData} {own : Str} {l : Ln} {m : Nat} {d : PyData} (hb : ∀ d ∈ bs, treeOk d = true) (ho : nameOk own = true) (hl : l.ok m) (h : madeL bs own l = some d) : lim d = true ∧ isT d = true := by
  have hg : ∀ b, good (bxAt bs b) = true := fun b => (treeOk_good (bxAt_ok hb)).g
  cases l with
  | text b t => rw [← Option.some.inj h]; exact ⟨lim_good _ hl.2, rfl⟩
  | self b => rw [← Option.some.inj h]; exact tree_lim (name_tree ho)
  | emp b => rw [← Option.some.inj h]; exact ⟨rfl, rfl⟩
  | copy b c => rw [← Option.some.inj h]; exact tree_lim (bxAt_ok hb)
  | put b c => exact joined_lim (hg b) (hg c) h
  | join b c => exact joined_lim (hg b) (hg c) h
  | cut b c d => exact parted_lim (hg c) (hg d) h
  | glue b c d => exact glued_lim (hg c) (treeOk_good (bxAt_ok hb)).sz (hg d) h
  | size b c => exact taken_lim (hg c) h
  | first b c => exact taken_lim (hg c) h
  | rest b c => exact taken_lim (hg c) h
  | _ => cases h
/-! ### kinds of lines -/
def kask : List (Str × V) := [("ask", .str "thing"), ("has", .str "has"), ("names", .str "names")]
def isAsk : Ln → Bool
  | .ask _ _ | .has _ _ | .names _ _ => true
  | _ => false
def isEnd : Ln → Bool
  | .say _ | .fault => true
  | _ => false
theorem kask_l (l : Ln) : (kask.lookup l.row.1).isSome = isAsk l := by cases l <;> rfl
theorem end_l (l : Ln) : inV (V.str l.row.1) [V.str "say", V.str "fault"] = isEnd l := by cases l <;> (first | decide +kernel | rfl)
end Aw

/-! plain answers, in plain Lean -/
namespace Aw
open PySem
def lookP (prs : Prs) (z : Str) : Option Src := (prs.find? fun p => p.1 == z).map (·.2)
theorem lookP_mem {prs : Prs} {z : Str} {s : Src} (h : lookP prs z = some s) : (z, s) ∈ prs := by
  unfold lookP at h
  cases e : prs.find? fun p => p.1 == z with
  | none => rw [e] at h; cases h
  | some p =>
    rw [e] at h
    have h1 := List.mem_of_find?_eq_some e
    have h2 := List.find?_some e
    have h3 : p.1 = z := beq_iff_eq.mp h2
    rw [← Option.some.inj h, ← h3]
    exact h1
theorem lookP_none {prs : Prs} {z : Str} (h : lookP prs z = none) : z ∉ names prs := by
  unfold lookP at h
  intro hz
  obtain ⟨p, hp, rfl⟩ := List.mem_map.mp hz
  cases e : prs.find? fun q => q.1 == p.1 with
  | none => exact absurd (List.find?_eq_none.mp e p hp) (by simp)
  | some q => rw [e] at h; cases h
theorem mem_names {prs : Prs} {z : Str} {s : Src} (h : (z, s) ∈ prs) : z ∈ names prs := List.mem_map_of_mem (f := Prod.fst) h
/-- as many names as make a tree -/
def nrowL : List Str → Nat → Nat → List Str
  | [], _, _ => []
  | n :: r, k, room => if room < n.length + 1 ∨ k = 40 then [] else n :: nrowL r (k + 1) (room - (n.length + 1))
theorem nrowL_mem : ∀ {ns : List Str} {k room : Nat} {x : Str}, x ∈ nrowL ns k room → x ∈ ns
  | [], _, _, _, h => by cases h
  | n :: r, k, room, x, h => by
    unfold nrowL at h
    split at h
    · cases h
    · rcases List.mem_cons.mp h with rfl | h
      · exact List.mem_cons_self ..
      · exact List.mem_cons_of_mem _ (nrowL_mem h)
theorem nrowL_len : ∀ {ns : List Str} {k room : Nat}, k ≤ 40 → (nrowL ns k room).length + k ≤ 40
  | [], k, _, h => by show 0 + k ≤ 40; omega
  | n :: r, k, room, h => by
    unfold nrowL
    split
    · show 0 + k ≤ 40; omega
    · rename_i q
      have := nrowL_len (ns := r) (k := k + 1) (room := room - (n.length + 1)) (by omega)
      rw [List.length_cons]
      omega
theorem nrowL_size : ∀ {ns : List Str} {k room : Nat}, tsizes ((nrowL ns k room).map .str) ≤ room
  | [], _, _ => Nat.zero_le _
  | n :: r, k, room => by
    unfold nrowL
    split
    · exact Nat.zero_le _
    · have := nrowL_size (ns := r) (k := k + 1) (room := room - (n.length + 1))
      simp only [List.map_cons, tsizes, tsize]
      omega
theorem deep_strs : ∀ ns : List Str, tdeeps (ns.map .str) ≤ 1
  | [] => Nat.zero_le _
  | n :: r => by
    have := deep_strs r
    simp only [List.map_cons, tdeeps, tdeep]
    omega
theorem goods_strs {ns : List Str} (h : ∀ n ∈ ns, good (.str n) = true) : goods (ns.map .str) = true := by
  induction ns with
  | nil => rfl
  | cons n r ih =>
    simp only [List.map_cons, goods, Bool.and_eq_true]
    exact ⟨h n (List.mem_cons_self ..), ih fun x hx => h x (List.mem_cons_of_mem _ hx)⟩
theorem nrow_tree {ns : List Str} (h : ∀ n ∈ ns, nameOk n = true) : treeOk (.tuple ((nrowL ns 0 599).map .str)) = true := by
  refine GoodT.ok (n := 2) (m := 600) ⟨?_, ?_, ?_⟩ (by decide) (by decide)
  · simp only [good, Bool.and_eq_true, decide_eq_true_eq, List.length_map]
    exact ⟨by have := nrowL_len (ns := ns) (k := 0) (room := 599) (by omega); omega, goods_strs fun n hn => (treeOk_good (name_tree (h n (nrowL_mem hn)))).g⟩
  · simp only [tdeep]
    have := deep_strs (nrowL ns 0 599)
    omega
  · simp only [tsize]
    have := nrowL_size (ns := ns) (k := 0) (room := 599)
    omega
def namesBy (prs : Prs) (z : Str) : List Str := (srtN (names prs)).filter fun n => Txt.startswith n z
def lookedUp (prs : Prs) (k z : Str) : PyData := if k = "has" then .str (if z ∈ names prs then "yes" else "no") else .tuple ((nrowL (namesBy prs z) 0 599).map .str)
theorem looked_ok {prs : Prs} (hp : PrsOk prs) {k z : Str} (hk : k = "has" ∨ k = "names") : ansOk k (some (lookedUp prs k z)) := by
  unfold lookedUp
  rcases hk with rfl | rfl
  · rw [if_pos rfl]
    refine .inr (.inl ⟨rfl, ?_⟩)
    split
    · exact .inl rfl
    · exact .inr rfl
  · rw [if_neg (by decide)]
    have hn : ∀ n ∈ namesBy prs z, nameOk n = true := by
      intro n hn
      have h1 := (srtN_perm (names prs)).mem_iff.mp (List.mem_filter.mp hn |>.1)
      obtain ⟨p, hp2, rfl⟩ := List.mem_map.mp h1
      exact hp.nm p hp2
    exact .inr (.inr ⟨rfl, _, rfl, nrow_tree hn, fun n h => hn n (nrowL_mem h)⟩)
/-! ### ends, runs -/
inductive End where
  | said (d : PyData)
  | fault (w : Str)
  | stuck (z : Str)
def End.py : End → PyData
  | .said d => .tuple [.str "said", d]
  | .fault w => .tuple [.str "fault", .str w]
  | .stuck z => .tuple [.str "stuck", .str z]
abbrev Run := List Asked × End
def Run.py (r : Run) : PyData := .tuple [.tuple (r.1.map Asked.py), r.2.py]
abbrev Runs := List (Str × Run)
/-- what is told of a name: being gone through, a lack, a value, or none -/
inductive Got where
  | going
  | lack
  | value (d : PyData)
  | bad (e : End)
def Got.py : Got → PyData
  | .going => .none
  | .lack => .tuple [.str "lack"]
  | .value d => .tuple [.str "value", d]
  | .bad e => e.py
/-- the answer by an end -/
def gotBy : End → Got
  | .said d => .value d
  | .fault w => .bad (.fault w)
  | .stuck z => .bad (.stuck z)
/-- whether an ask is answered, and by what -/
def Got.asked : Got → Option (Option PyData)
  | .lack => some none
  | .value d => some (some d)
  | .going | .bad _ => none
def Mac.fin (m : Mac) : End := match m.st with
  | .said d => .said d
  | .fault w => .fault w
  | .go | .asks _ _ => .fault "told"
abbrev AskF := Runs → Str → Got × Runs
noncomputable def runLoop (prs : Prs) (ask : AskF) : Nat → Mac → Runs → Run × Runs
  | 0, m, rs => ((m.asks, .fault "told"), rs)
  | n + 1, m, rs => match m.st with
    | .asks k z => if k = "thing" then (match (ask rs z).1.asked with
        | none => ((m.asks, .stuck z), (ask rs z).2)
        | some o => runLoop prs ask n (m.answer o) (ask rs z).2)
      else runLoop prs ask n (m.answer (some (lookedUp prs k z))) rs
    | _ => ((m.asks, m.fin), rs)
noncomputable def runBy (prs : Prs) (ask : AskF) (name : Str) (rule : PyData) (as : List Asked) (rs : Runs) : Run × Runs :=
  if isRule rule = true then ((as ++ (runLoop prs ask 302 (Mac.begin rule name) rs).1.1, (runLoop prs ask 302 (Mac.begin rule name) rs).1.2), (runLoop prs ask 302 (Mac.begin rule name) rs).2) else ((as, .fault "rule"), rs)
def srcTxt (s : Src) : Str := (txt? s.x).getD ""
noncomputable def goneBy (prs : Prs) (ask : AskF) (name : Str) (s : Src) (rs : Runs) : Run × Runs :=
  if s.k = "rule" then runBy prs ask name s.x [] rs else match (ask rs (srcTxt s)).1.asked with
    | none => (([], .stuck (srcTxt s)), (ask rs (srcTxt s)).2)
    | some none => (([("rule", srcTxt s, none)], .fault "lack"), (ask rs (srcTxt s)).2)
    | some (some d) => runBy prs ask name d [("rule", srcTxt s, some d)] (ask rs (srcTxt s)).2
noncomputable def ansStep (prs : Prs) (inner : List Str → AskF) (open' : List Str) : AskF := fun rs z => match lookP prs z with
  | none => (.lack, rs)
  | some s => if s.k = "leaf" then (.value s.x, rs) else if z ∈ open' then (.going, rs) else match rs.lookup z with
    | some r => (gotBy r.2, rs)
    | none => (gotBy (goneBy prs (inner (open' ++ [z])) z s rs).1.2, (goneBy prs (inner (open' ++ [z])) z s rs).2 ++ [(z, (goneBy prs (inner (open' ++ [z])) z s rs).1)])
noncomputable def pAns (prs : Prs) : Nat → List Str → AskF
  | 0 => ansStep prs fun _ rs _ => (.going, rs)
  | n + 1 => ansStep prs (pAns prs n)
/-! ### what is true of them -/
structure FAskOk (a : Asked) : Prop where
  k : a.1 = "thing" ∨ a.1 = "has" ∨ a.1 = "names" ∨ a.1 = "rule"
  z : treeOk (.str a.2.1) = true
  d : ∀ d, a.2.2 = some d → treeOk d = true
def EndOk : End → Prop
  | .said d => treeOk d = true
  | .fault w => w ∈ faults ++ (["rule"] : List Str)
  | .stuck z => nameOk z = true
structure RunOk (r : Run) : Prop where
  a : ∀ a ∈ r.1, FAskOk a
  n : r.1.length ≤ 301
  e : EndOk r.2
structure RunsOk (rs : Runs) : Prop where
  ok : ∀ p ∈ rs, nameOk p.1 = true ∧ RunOk p.2
  nd : (rs.map (·.1)).Nodup
def GotOk : Got → Prop
  | .value d => treeOk d = true
  | .bad e => EndOk e
  | _ => True
/-- a name with a rule or made source -/
def Thing (prs : Prs) (z : Str) : Prop := ∃ s, lookP prs z = some s ∧ s.k ≠ "leaf"
theorem Thing.nm {prs : Prs} {z : Str} (h : Thing prs z) : z ∈ names prs := by
  obtain ⟨s, hs, _⟩ := h
  exact mem_names (lookP_mem hs)
/-- what an asking keeps -/
structure Kept (prs : Prs) (op : List Str) (rs rs' : Runs) : Prop where
  ok : RunsOk rs'
  more : ∃ t, rs' = rs ++ t ∧ ∀ p ∈ t, Thing prs p.1 ∧ p.1 ∉ op
theorem Kept.refl {prs : Prs} {op : List Str} {rs : Runs} (h : RunsOk rs) : Kept prs op rs rs := ⟨h, [], by simp, by simp⟩
theorem Kept.trans {prs : Prs} {op : List Str} {r1 r2 r3 : Runs} (a : Kept prs op r1 r2) (b : Kept prs op r2 r3) : Kept prs op r1 r3 := by
  obtain ⟨t, e, ht⟩ := a.more
  obtain ⟨u, f, hu⟩ := b.more
  refine ⟨b.ok, t ++ u, by rw [f, e, List.append_assoc], fun p hp => ?_⟩
  rcases List.mem_append.mp hp with h | h
  · exact ht p h
  · exact hu p h
def AskOk (prs : Prs) (op : List Str) (ask : AskF) : Prop := ∀ rs z, RunsOk rs → nameOk z = true → GotOk (ask rs z).1 ∧ Kept prs op rs (ask rs z).2
theorem FAskOk.of {a : Asked} (h1 : askOk a.1 a.2.1) (h2 : ansOk a.1 a.2.2) : FAskOk a := by
  refine ⟨?_, ?_, ?_⟩
  · rcases h1 with ⟨h, _⟩ | ⟨h, _⟩ | ⟨h, _⟩
    · exact .inl h
    · exact .inr (.inl h)
    · exact .inr (.inr (.inl h))
  · rcases h1 with ⟨_, h⟩ | ⟨_, h⟩ | ⟨_, h⟩
    · exact name_tree h
    · exact name_tree h
    · exact h
  · intro d hd
    rcases h2 with ⟨_, h⟩ | ⟨_, h⟩ | ⟨_, ns, h, h3, _⟩
    · exact h d hd
    · rcases h with h | h <;> rw [hd] at h <;> rw [Option.some.inj h] <;> decide +kernel
    · rw [hd] at h; rw [Option.some.inj h]; exact h3
theorem MacOk.run {m : Mac} (h : MacOk m) : (∀ a ∈ m.asks, FAskOk a) ∧ m.asks.length ≤ 300 := ⟨fun a ha => FAskOk.of (h.ask a ha).1 (h.ask a ha).2, Nat.le_trans h.asks h.done⟩
theorem got_ans {g : Got} (h : GotOk g) {o : Option PyData} (e : g.asked = some o) : ansOk "thing" o := by
  refine .inl ⟨rfl, fun d hd => ?_⟩
  subst hd
  cases g with
  | value x => rw [← Option.some.inj (Option.some.inj e)]; exact h
  | lack => cases e
  | going => cases e
  | bad x => cases e
theorem fin_ok {m : Mac} (h : MacOk m) : EndOk m.fin := by
  have hs := h.st
  unfold Mac.fin
  cases e : m.st with
  | go => show _ ∈ faults ++ _; decide +kernel
  | asks k z => show _ ∈ faults ++ _; decide +kernel
  | said d => rw [e] at hs; exact hs
  | fault w => rw [e] at hs; exact List.mem_append_left _ hs
theorem runLoop_ok {prs : Prs} (hp : PrsOk prs) {op : List Str} {ask : AskF} (ha : AskOk prs op ask) : ∀ (n : Nat) {m : Mac} {rs : Runs}, MacOk m → RunsOk rs →
    (∀ a ∈ (runLoop prs ask n m rs).1.1, FAskOk a) ∧ (runLoop prs ask n m rs).1.1.length ≤ 300 ∧ EndOk (runLoop prs ask n m rs).1.2 ∧ Kept prs op rs (runLoop prs ask n m rs).2
  | 0, m, rs, hm, hr => ⟨hm.run.1, hm.run.2, by show _ ∈ faults ++ _; decide +kernel, .refl hr⟩
  | n + 1, m, rs, hm, hr => by
    unfold runLoop
    split
    · rename_i k z hs
      have hst := hm.st
      rw [hs] at hst
      split
      · rename_i hk
        subst hk
        have hz : nameOk z = true := by
          rcases hst.2.1 with ⟨_, h⟩ | ⟨h, _⟩ | ⟨h, _⟩
          · exact h
          · exact absurd h (by decide)
          · exact absurd h (by decide)
        obtain ⟨k1, k2⟩ := ha rs z hr hz
        split
        · exact ⟨hm.run.1, hm.run.2, hz, k2⟩
        · rename_i o ho
          obtain ⟨a1, a2, a3, a4⟩ := runLoop_ok hp ha n (answer_ok hm hs (got_ans k1 ho)).1 k2.ok
          exact ⟨a1, a2, a3, k2.trans a4⟩
      · rename_i hk
        have hk2 : k = "has" ∨ k = "names" := by
          rcases hst.2.1 with ⟨h, _⟩ | ⟨h, _⟩ | ⟨h, _⟩
          · exact absurd h hk
          · exact .inl h
          · exact .inr h
        exact runLoop_ok hp ha n (answer_ok hm hs (looked_ok hp hk2)).1 hr
    · exact ⟨hm.run.1, hm.run.2, fin_ok hm, .refl hr⟩
theorem runBy_ok {prs : Prs} (hp : PrsOk prs) {op : List Str} {ask : AskF} (ha : AskOk prs op ask) {name : Str} (hn : nameOk name = true) {rule : PyData} {as : List Asked} {rs : Runs} (h1 : ∀ a ∈ as, FAskOk a) (h2 : as.length ≤ 1) (hr : RunsOk rs) :
    RunOk (runBy prs ask name rule as rs).1 ∧ Kept prs op rs (runBy prs ask name rule as rs).2 := by
  unfold runBy
  split
  · rename_i hru
    obtain ⟨a1, a2, a3, a4⟩ := runLoop_ok hp ha 302 (begin_ok hru hn) hr
    refine ⟨⟨fun a h => ?_, ?_, a3⟩, a4⟩
    · rcases List.mem_append.mp h with h | h
      · exact h1 a h
      · exact a1 a h
    · rw [List.length_append]; omega
  · exact ⟨⟨h1, by show as.length ≤ 301; omega, by show _ ∈ faults ++ _; decide +kernel⟩, .refl hr⟩
theorem srcTxt_ok {s : Src} (h : s.ok) (h1 : s.k ≠ "leaf") (h2 : s.k ≠ "rule") : s.x = .str (srcTxt s) ∧ nameOk (srcTxt s) = true := by
  rcases h with ⟨_, z, e, hz⟩ | ⟨h | h, _⟩
  · unfold srcTxt
    rw [e]
    exact ⟨rfl, hz⟩
  · exact absurd h h1
  · exact absurd h h2
theorem goneBy_ok {prs : Prs} (hp : PrsOk prs) {op : List Str} {ask : AskF} (ha : AskOk prs op ask) {name : Str} (hn : nameOk name = true) {s : Src} (hs : s.ok) (hl : s.k ≠ "leaf") {rs : Runs} (hr : RunsOk rs) :
    RunOk (goneBy prs ask name s rs).1 ∧ Kept prs op rs (goneBy prs ask name s rs).2 := by
  unfold goneBy
  split
  · exact runBy_ok hp ha hn (fun a h => (List.not_mem_nil h).elim) (Nat.zero_le _) hr
  · rename_i hru
    obtain ⟨e, hz⟩ := srcTxt_ok hs hl hru
    obtain ⟨k1, k2⟩ := ha rs _ hr hz
    split
    · exact ⟨⟨fun a h => (List.not_mem_nil h).elim, Nat.zero_le _, hz⟩, k2⟩
    · refine ⟨⟨fun a h => ?_, by show 1 ≤ 301; decide, by show _ ∈ faults ++ _; decide +kernel⟩, k2⟩
      rw [List.mem_singleton.mp h]
      exact ⟨.inr (.inr (.inr rfl)), name_tree hz, fun d hd => by cases hd⟩
    · rename_i d hd
      obtain ⟨b1, b2⟩ := runBy_ok hp ha hn (rule := d) (as := [("rule", srcTxt s, some d)]) (rs := (ask rs (srcTxt s)).2) (fun a h => by
        rw [List.mem_singleton.mp h]
        refine ⟨.inr (.inr (.inr rfl)), name_tree hz, fun e he => ?_⟩
        rw [← Option.some.inj he]
        rcases got_ans k1 hd with ⟨_, h⟩ | ⟨h, _⟩ | ⟨h, _⟩
        · exact h d rfl
        · exact absurd h (by decide)
        · exact absurd h (by decide)) (Nat.le_refl _) k2.ok
      exact ⟨b1, k2.trans b2⟩
theorem gotBy_ok {e : End} (h : EndOk e) : GotOk (gotBy e) := by cases e <;> exact h
theorem lookup_some_mem {α : Type} {z : Str} {r : α} {rs : List (Str × α)} (h : rs.lookup z = some r) : (z, r) ∈ rs := lookup_mem h
theorem lookup_none_iff {α : Type} {z : Str} : ∀ {rs : List (Str × α)}, rs.lookup z = none → z ∉ rs.map (·.1)
  | [], _ => by simp
  | q :: r, h => by
    rw [List.lookup_cons] at h
    by_cases c : z = q.1
    · rw [show (z == q.1) = true from beq_iff_eq.mpr c] at h; cases h
    · rw [show (z == q.1) = false from beq_eq_false_iff_ne.mpr c] at h
      rw [List.map_cons]
      intro hm
      rcases List.mem_cons.mp hm with hm | hm
      · exact c hm
      · exact lookup_none_iff h hm
theorem ansStep_ok {prs : Prs} (hp : PrsOk prs) {inner : List Str → AskF} (hi : ∀ op, AskOk prs op (inner op)) (op : List Str) : AskOk prs op (ansStep prs inner op) := by
  intro rs z hr hz
  unfold ansStep
  split
  · exact ⟨trivial, .refl hr⟩
  · rename_i s hs
    have hm := lookP_mem hs
    have hok := hp.sr _ hm
    split
    · rename_i hl
      refine ⟨?_, .refl hr⟩
      rcases hok with ⟨h, _⟩ | ⟨_, h⟩
      · rw [show s.k = "made" from h] at hl; exact absurd hl (by decide)
      · exact h
    · rename_i hl
      split
      · exact ⟨trivial, .refl hr⟩
      · rename_i hop
        split
        · rename_i r hl2
          exact ⟨gotBy_ok (hr.ok _ (lookup_some_mem hl2)).2.e, .refl hr⟩
        · rename_i hl2
          obtain ⟨g1, g2⟩ := goneBy_ok hp (hi (op ++ [z])) hz hok hl hr
          obtain ⟨t, et, ht⟩ := g2.more
          have hzn : z ∉ ((goneBy prs (inner (op ++ [z])) z s rs).2).map (·.1) := by
            rw [et, List.map_append]
            intro h
            rcases List.mem_append.mp h with h | h
            · exact lookup_none_iff hl2 h
            · obtain ⟨p, hp2, e⟩ := List.mem_map.mp h
              exact (ht p hp2).2 (e ▸ List.mem_append_right _ (List.mem_singleton_self _))
          refine ⟨gotBy_ok g1.e, ⟨fun p h => ?_, ?_⟩, t ++ [(z, (goneBy prs (inner (op ++ [z])) z s rs).1)], ?_, fun p h => ?_⟩
          · rcases List.mem_append.mp h with h | h
            · exact g2.ok.ok p h
            · rw [List.mem_singleton.mp h]; exact ⟨hz, g1⟩
          · rw [List.map_append, List.nodup_append]
            refine ⟨g2.ok.nd, by simp, fun a ha b hb => ?_⟩
            simp only [List.map_cons, List.map_nil, List.mem_singleton] at hb
            subst hb
            intro e
            exact hzn (e ▸ ha)
          · show _ ++ _ = _
            rw [et, List.append_assoc]
          · rcases List.mem_append.mp h with h | h
            · exact ⟨(ht p h).1, fun q => (ht p h).2 (List.mem_append_left _ q)⟩
            · rw [List.mem_singleton.mp h]; exact ⟨⟨s, hs, hl⟩, hop⟩
theorem pAns_ok {prs : Prs} (hp : PrsOk prs) : ∀ (n : Nat) (op : List Str), AskOk prs op (pAns prs n op)
  | 0, op => ansStep_ok hp (inner := fun _ rs _ => (.going, rs)) (fun _ rs z hr _ => ⟨trivial, .refl hr⟩) op
  | n + 1, op => ansStep_ok hp (pAns_ok hp n) op
theorem lookup_append_new {α : Type} {z : Str} {r : α} : ∀ {rs : List (Str × α)}, z ∉ rs.map (·.1) → (rs ++ [(z, r)]).lookup z = some r
  | [], _ => by simp [List.lookup_cons]
  | q :: t, h => by
    rw [List.cons_append, List.lookup_cons]
    rw [List.map_cons] at h
    have c : ¬ z = q.1 := fun e => h (e ▸ List.mem_cons_self ..)
    rw [show (z == q.1) = false from beq_eq_false_iff_ne.mpr c]
    exact lookup_append_new fun q => h (List.mem_cons_of_mem _ q)
/-! ### from the top -/
noncomputable def pTop (prs : Prs) (z : Str) : Got × Runs := pAns prs 50 [] [] z
noncomputable def fullRun (prs : Prs) (z : Str) : Run := ((pTop prs z).2.lookup z).getD ([], .fault "told")
noncomputable def metBy (prs : Prs) (z : Str) : List Str := (pTop prs z).2.map (·.1)
noncomputable def paperD (prs : Prs) (z : Str) : Runs := (metBy prs z).map fun m => (m, fullRun prs m)
def stepPy (p : Str × Run) : PyData := .tuple [.str p.1, .tuple (p.2.1.map Asked.py), p.2.2.py]
theorem nil_ok : RunsOk [] := ⟨fun p h => (List.not_mem_nil h).elim, List.nodup_nil⟩
theorem top_ok {prs : Prs} (hp : PrsOk prs) {z : Str} (hz : nameOk z = true) : GotOk (pTop prs z).1 ∧ Kept prs [] [] (pTop prs z).2 := pAns_ok hp 50 [] [] z nil_ok hz
theorem met_thing {prs : Prs} (hp : PrsOk prs) {z : Str} (hz : nameOk z = true) {m : Str} (h : m ∈ metBy prs z) : Thing prs m := by
  obtain ⟨t, e, ht⟩ := (top_ok hp hz).2.more
  obtain ⟨p, hp2, rfl⟩ := List.mem_map.mp h
  rw [e] at hp2
  exact (ht p hp2).1
theorem Thing.nameOk {prs : Prs} (hp : PrsOk prs) {z : Str} (h : Thing prs z) : nameOk z = true := by
  obtain ⟨s, hs, _⟩ := h
  exact hp.nm _ (lookP_mem hs)
theorem top_look {prs : Prs} (hp : PrsOk prs) {z : Str} (h : Thing prs z) : (pTop prs z).2.lookup z = some (fullRun prs z) := by
  have key : ∃ r, (pTop prs z).2.lookup z = some r := by
    have hz := h.nameOk hp
    obtain ⟨s, hs, hl⟩ := h
    have hok := hp.sr _ (lookP_mem hs)
    obtain ⟨g1, g2⟩ := goneBy_ok hp (pAns_ok hp 49 ([] ++ [z])) hz hok hl nil_ok
    obtain ⟨t, et, ht⟩ := g2.more
    have e : (pTop prs z).2 = (goneBy prs (pAns prs 49 ([] ++ [z])) z s []).2 ++ [(z, (goneBy prs (pAns prs 49 ([] ++ [z])) z s []).1)] := by
      show (ansStep prs (pAns prs 49) [] [] z).2 = _
      unfold ansStep
      rw [hs]
      dsimp only
      rw [if_neg hl, if_neg (by simp)]
      rfl
    rw [e]
    refine ⟨_, lookup_append_new ?_⟩
    rw [et, List.nil_append]
    intro h
    obtain ⟨p, hp2, e⟩ := List.mem_map.mp h
    exact (ht p hp2).2 (e ▸ List.mem_append_right _ (List.mem_singleton_self _))
  obtain ⟨r, e⟩ := key
  unfold fullRun
  rw [e]
  rfl
theorem fullRun_ok {prs : Prs} (hp : PrsOk prs) {z : Str} (h : Thing prs z) : RunOk (fullRun prs z) := ((top_ok hp (h.nameOk hp)).2.ok.ok _ (lookup_some_mem (top_look hp h))).2
theorem paper_ok {prs : Prs} (hp : PrsOk prs) {z : Str} (hz : nameOk z = true) : ∀ p ∈ paperD prs z, nameOk p.1 = true ∧ RunOk p.2 := by
  intro p h
  obtain ⟨m, hm, rfl⟩ := List.mem_map.mp h
  have ht := met_thing hp hz hm
  exact ⟨ht.nameOk hp, fullRun_ok hp ht⟩
theorem met_len {prs : Prs} (hp : PrsOk prs) {z : Str} (hz : nameOk z = true) : (metBy prs z).Nodup ∧ (∀ m ∈ metBy prs z, m ∈ names prs) := ⟨(top_ok hp hz).2.ok.nd, fun m h => (met_thing hp hz h).nm⟩
end Aw

namespace Aw
open PySem PySem.Spec PyProof.Rows L2

local macro_rules | `(tactic| walk_at "rd1") => `(tactic| first
  | ((with_reducible apply i_var); exact rfl)
  | with_reducible refine i_c ?_
  | with_reducible refine i_op ?_
  | with_reducible refine i_un ?_
  | with_reducible refine i_test ?_
  | with_reducible refine i_tB ?_
  | with_reducible refine i_bl ?_
  | with_reducible refine i_and ?_
  | with_reducible refine i_or ?_
  | with_reducible refine i_not ?_
  | with_reducible refine i_andV ?_
  | with_reducible refine i_orV ?_
  | with_reducible refine i_notV ?_
  | with_reducible refine i_if ?_
  | with_reducible refine i_chain ?_
  | with_reducible refine i_nil ?_
  | with_reducible refine i_cons ?_
  | with_reducible refine i_tup ?_
  | with_reducible refine i_lst ?_
  | with_reducible refine i_cb ?_
  | with_reducible refine i_call ?_
  | with_reducible refine i_bm ?_
  | with_reducible refine i_m1 ?_
  | with_reducible refine i_m0 ?_
  | with_reducible refine i_exstr ?_
  | with_reducible refine i_sl ?_
  | with_reducible refine i_nopart ?_
  | with_reducible refine i_part ?_
  | with_reducible refine i_int ?_
  | with_reducible refine i_seq ?_
  | with_reducible refine i_next ?_
  | with_reducible refine i_asg ?_
  | with_reducible refine i_gname ?_
  | with_reducible refine i_ret ?_
  | with_reducible refine i_retN ?_
  | with_reducible refine i_drop ?_
  | with_reducible refine i_ifS ?_
  | with_reducible refine i_break ?_
  | with_reducible refine i_cont ?_
  | ((with_reducible apply i_aug); exact rfl)
  | with_reducible refine i_add_i ?_
  | with_reducible refine i_sub ?_
  | with_reducible refine i_neg ?_
  | with_reducible refine i_ipadd_i ?_
  | with_reducible refine i_ip ?_
  | with_reducible refine i_lt ?_
  | with_reducible refine i_le ?_
  | with_reducible refine i_gt ?_
  | with_reducible refine i_ge ?_
  | with_reducible refine i_lt_s ?_
  | with_reducible refine i_le_s ?_
  | with_reducible refine i_gt_s ?_
  | with_reducible refine i_ge_s ?_
  | with_reducible refine i_isN ?_
  | with_reducible refine i_notN ?_
  | with_reducible refine i_in_c ?_
  | with_reducible refine i_nin_c ?_
  | with_reducible refine i_gsub ?_
  | with_reducible refine i_gcons ?_
  | with_reducible refine i_gnil ?_
  | with_reducible refine i_iList ?_
  | with_reducible refine i_iTup ?_
  | with_reducible refine i_iStr ?_
  | with_reducible refine i_iRng1 ?_
  | with_reducible refine i_lc ?_
  | with_reducible refine i_for ?_
  | with_reducible refine i_yes ?_
  | with_reducible refine i_repl ?_
  | with_reducible refine i_meth ?_
  | with_reducible refine i_fld ?_
  | with_reducible refine i_sfld ?_
  | with_reducible refine i_din ?_
  | with_reducible refine i_dnin ?_
  | with_reducible refine i_dget ?_
  | with_reducible refine i_dput ?_
  | with_reducible refine i_joined ?_
  | with_reducible refine i_callS ?_
  | with_reducible refine i_xf ?_
  | with_reducible refine i_revL ?_
  | with_reducible refine i_items ?_
  | with_reducible refine i_stepL ?_
  | with_reducible refine i_make ?_
  | with_reducible refine i_fmt ?_
  | with_reducible refine i_jcons ?_
  | with_reducible refine i_jnil ?_
  | with_reducible refine i_iEnum ?_
  | with_reducible refine i_faug ?_
  | with_reducible refine i_dget2 ?_
  | with_reducible refine i_kin ?_
  | with_reducible refine i_kix ?_
  | with_reducible refine i_bm0 ?_
  | with_reducible refine i_meth ?_
  | with_reducible refine iteT ?_
  | with_reducible refine iteF ?_
  | with_reducible refine iteNT ?_
  | with_reducible refine iteNF ?_
  | ((with_reducible refine i_len_s ?_ ?_); (first | assumption | exact szl (by assumption)))
  | ((with_reducible refine i_sl_s ?_ ?_); (first | assumption | exact szl (by assumption)))
  | with_reducible refine i_int_b ?_
  | with_reducible refine i_abs ?_
  | with_reducible refine i_min2 ?_
  | with_reducible refine i_eq rfl ?_
  | with_reducible refine i_ne rfl ?_
  | with_reducible refine iteDR ?_
  | with_reducible refine iteRN ?_
  | with_reducible refine iteI1 ?_
  | with_reducible refine iteI2 ?_
  | with_reducible refine iteI3 ?_
  | with_reducible refine iteI4 ?_
  | with_reducible refine iteSN ?_
  | with_reducible refine iteNDR ?_
  | with_reducible refine iteNRN ?_
  | with_reducible refine iteNSN ?_
  | with_reducible refine iteST (by first | rfl | decide) ?_
  | with_reducible refine iteSF (by decide) ?_
  | with_reducible refine iteNST (by first | rfl | decide) ?_
  | with_reducible refine iteNSF (by decide) ?_)
local macro_rules | `(tactic| walk_at "rd") => `(tactic| repeat walk_at "rd1")

abbrev s_Project_source_of : Stmt := inClass (topS 59) 2
theorem sc_Project_source_of : FnScope ["self", "name"] ["self", "name"] (defScope s_Project_source_of) := ⟨rfl, rfl, rfl, by decide +kernel, rfl, by decide +kernel, by decide +kernel⟩
abbrev s_Project_looked_up : Stmt := inClass (topS 59) 3
theorem sc_Project_looked_up : FnScope ["self", "ask", "kind", "text", "name"] ["self", "ask"] (defScope s_Project_looked_up) := ⟨rfl, rfl, rfl, by decide +kernel, rfl, by decide +kernel, by decide +kernel⟩
abbrev s_names_row : Stmt := topS 60
theorem sc_names_row : FnScope ["names", "row", "room", "name"] ["names"] (defScope s_names_row) := ⟨rfl, rfl, rfl, by decide +kernel, rfl, by decide +kernel, by decide +kernel⟩
section
variable {P : Program} {w : World} {K : PySem.W.Frag} {mg : Str → Option Value} {base : Heap}
theorem kvs_look {H : Hp} {kvs : List (Key × V)} {prs : Prs} (h : KVs K H kvs prs) (nd : (names prs).Nodup) (z : Str) : (z ∉ names prs ∧ lookP prs z = none ∧ valV kvs (Sum.inr z : Key) = none) ∨ ∃ s v, z ∈ names prs ∧ lookP prs z = some s ∧ valV kvs (Sum.inr z : Key) = some v ∧ Dt K H s.py v := by
  cases e : lookP prs z with
  | none => exact .inl ⟨lookP_none e, rfl, h.none (lookP_none e)⟩
  | some s =>
    have hm := lookP_mem e
    obtain ⟨v, ev, dv⟩ := h.some nd hm
    exact .inr ⟨s, v, mem_names hm, rfl, ev, dv⟩
def spSourceOf (K : PySem.W.Frag) (C : Addr) : Sp := fun vs H Q _ => ∃ (p : Addr) (prs : Prs) (z : Str), vs = [.ref p, .str z] ∧ IsPr K C H p prs ∧ PrsOk prs ∧ ∀ v, OD K H ((lookP prs z).map Src.py) v → Q v H
theorem ok_source_of {C : Addr} (D : DfM K C "source_of" "Project.source_of" s_Project_source_of ["self", "name"]) (T : PCls K mg C) : CalM P w K mg base CX0 C "source_of" ["self", "name"] 1 (spSourceOf K C) := by
  refine D.cal fun f fd F => F.ok sc_Project_source_of (fun vs H Q E h => ?_) (fun cdv A outer s H vs Q E hr h => ?_)
  · obtain ⟨_, _, _, rfl, _⟩ := h
    rfl
  · obtain ⟨p, prs, z, rfl, ⟨dx, t, kvs, e1, e2, hk⟩, hok, q⟩ := h
    refine ⟨_, (pss_one (ps_ret (pe_dget2 (hu_of hr) (pe_fldU K (pv 0) rfl) (pv 1) pe_non ⟨rfl, rfl, rfl, rfl⟩))), ?_⟩
    walk_at "rd"
    refine i_fk e1 T.cl T.nT rfl ?_
    refine i_dg e2 ?_
    walk_at "rd"
    refine i_dgo e2 ?_
    rcases kvs_look hk hok.nd z with ⟨_, h1, h2⟩ | ⟨s, v, _, h1, h2, h3⟩
    · rw [h2]
      exact q _ (by rw [h1]; rfl)
    · rw [h2]
      exact q _ (by rw [h1]; exact h3)
/-! ### names_row -/
def spNamesRow (K : PySem.W.Frag) : Sp := fun vs H Q _ => ∃ (l : Addr) (ns : List Str), vs = [.ref l] ∧ H l = some (.lst (ns.map V.str)) ∧ (∀ n ∈ ns, nameOk n = true) ∧ ∀ H' v, Same H H' → Dt K H' (.tuple ((nrowL ns 0 599).map .str)) v → Q v H'
theorem ok_names_row (D : Df K mg "names_row" "names_row" s_names_row ["names"]) (B : NoB mg) (GT : GTrees mg) : Cal P w K mg base CX0 "names_row" ["names"] 1 (spNamesRow K) := by
  have g_MOST_SIZE := GT.size
  have g_MOST_PARTS := GT.parts
  refine D.cal fun f fd F => F.ok sc_names_row (fun vs H Q E h => ?_) (fun cdv A outer s H vs Q E hr h => ?_)
  · obtain ⟨_, _, rfl, _⟩ := h
    rfl
  · obtain ⟨l, ns, rfl, el, hn, q⟩ := h
    refine ⟨_, (pss_cons (ps_set (i := 1) sc_names_row.nd rfl (.inl rfl) (pe_lst pa_nil))
      (pss_cons (ps_set (i := 2) sc_names_row.nd rfl (.inl rfl) (pe_op op_subU (pe_gv (by rfl) g_MOST_SIZE) pe_int))
      (pss_cons (ps_for PassesOwn.never rfl (pi_listU K (pv 0)) (pg_name (i := 3) sc_names_row.nd rfl (.inl rfl)) (pss_cons (ps_aug (i := 2) sc_names_row.nd rfl (.inl rfl) (pe_op (op_addU K) (pe_callB (call_lenU K) (by rfl) B.m_len (by decide +kernel) (pa_cons (pv 3) pa_nil)) pe_int) ip_sub)
      (pss_cons (ps_if (PW.pt (pw_or (pt_cmpR op_ltU (pv 2) pe_int (nomark _)) (pw_or1 (pt_cmpR (op_eqU K hr.units) (pe_callB (call_lenU K) (by rfl) B.m_len (by decide +kernel) (pa_cons (pv 1) pa_nil)) (pe_gv (by rfl) g_MOST_PARTS) (nomark _))))) (pss_one (ps_ret (pe_callTy (call_tupU K) (by rfl) B.m_tuple (by decide +kernel) (pa_cons (pv 1) pa_nil)))) pss_nil)
      (pss_one (ps_expr (pe_bmU K PySem.F.plainAttrs_list PySem.F.slot_list_append PySem.F.type_list_append mt_append (pv 1) (pa_cons (pv 3) pa_nil)))))))
      (pss_one (ps_ret (pe_callTy (call_tupU K) (by rfl) B.m_tuple (by decide +kernel) (pa_cons (pv 1) pa_nil))))))), ?_⟩
    generalize hR : nrowL ns 0 599 = R at q
    walk_at "rd"
    refine i_new_l (Nat.zero_le _) fun r H1 n1 s1 e1 => ?_
    walk_at "rd"
    have hrl : l ≠ r := fun e => by rw [e] at el; rw [n1] at el; cases el
    refine f_list (.inl (.inl (s1 _ _ el))) (fun i σ H2 => ∃ (room : Nat) (y : Option V), σ = [some (.ref l), some (.ref r), some (.int (room : Nat)), y] ∧ Same H H2 ∧ H2 r = some (.lst ((ns.take i).map V.str)) ∧ i ≤ 40 ∧ R = ns.take i ++ nrowL (ns.drop i) i room) ?_ ?_ ?_ ?_
    · exact ⟨599, none, rfl, s1, e1, Nat.zero_le _, by rw [← hR]; simp⟩
    · rintro i σ H2 _ ⟨room, y, rfl, s2, e2, _⟩
      exact .inl (.inl (s2 _ _ el))
    · rintro i x σ H2 hx ⟨room, y, rfl, s2, e2, hi, hro⟩
      rw [List.getElem?_map] at hx
      cases hni : ns[i]? with
      | none => rw [hni] at hx; cases hx
      | some n =>
      rw [hni] at hx
      cases (Option.some.inj hx)
      have hnm := nameOk_len (hn n (List.mem_of_getElem? hni))
      have hil := (List.getElem?_eq_some_iff.mp hni).1
      have hdr : ns.drop i = n :: ns.drop (i + 1) := by
        rw [List.drop_eq_getElem?_toList_append, hni]
        rfl
      have hlen : (ns.take i).length = i := by rw [List.length_take]; omega
      rw [hdr] at hro
      unfold nrowL at hro
      walk_at "rd"
      refine i_len_s (szl (by omega)) ?_
      walk_at "rd"
      by_cases h1 : room < n.length + 1
      · rw [decide_eq_true (by omega : ((room : Int) - ((n.length : Int) + 1)) < 0)]
        walk_at "rd"
        refine i_tupof_l (.inl (.inl e2)) fun t H3 n3 s3 e3 => ?_
        refine q H3 _ (s2.trans s3) ?_
        rw [if_pos (.inl h1), List.append_nil] at hro
        rw [hro]
        exact dt_tup (.inl (.inl e3)) dts_strs
      · rw [decide_eq_false (by omega : ¬ ((room : Int) - ((n.length : Int) + 1)) < 0)]
        walk_at "rd"
        refine i_len_l (.inl (.inl e2)) ?_
        walk_at "rd"
        rw [decI, List.length_map, hlen]
        by_cases h2 : i = 40
        · rw [decide_eq_true (by omega : (i : Int) = 40)]
          walk_at "rd"
          refine i_tupof_l (.inl (.inl e2)) fun t H3 n3 s3 e3 => ?_
          refine q H3 _ (s2.trans s3) ?_
          rw [if_pos (.inr h2), List.append_nil] at hro
          rw [hro]
          exact dt_tup (.inl (.inl e3)) dts_strs
        · rw [decide_eq_false (by omega : ¬ (i : Int) = 40)]
          walk_at "rd"
          refine i_tyl e2 ?_
          walk_at "rd"
          refine i_append e2 (szlt (by rw [List.length_map, hlen]; omega)) fun H3 b3 e3 => ?_
          refine ⟨room - (n.length + 1), some (.str n), ?_, Same.but s2 n1 b3, ?_, by omega, ?_⟩
          · rw [show ((room : Int) - ((n.length : Int) + 1)) = ((room - (n.length + 1) : Nat) : Int) by omega]
            rfl
          · rw [e3, take_snoc hni, List.map_append]
            rfl
          · rw [if_neg (by omega)] at hro
            rw [take_snoc hni, List.append_assoc]
            exact hro
    · rintro σ H2 ⟨room, y, rfl, s2, e2, _, hro⟩
      rw [List.length_map] at e2 hro
      rw [List.take_length] at e2 hro
      rw [List.drop_length] at hro
      walk_at "rd"
      refine i_tupof_l (.inl (.inl e2)) fun t H3 n3 s3 e3 => ?_
      refine q H3 _ (s2.trans s3) ?_
      rw [show R = ns by rw [hro]; show ns ++ [] = ns; rw [List.append_nil]]
      exact dt_tup (.inl (.inl e3)) dts_strs
/-! ### looked_up -/
def spLookedUp (K : PySem.W.Frag) (C : Addr) : Sp := fun vs H Q _ => ∃ (p : Addr) (va : V) (prs : Prs) (k z : Str), vs = [.ref p, va] ∧ IsPr K C H p prs ∧ PrsOk prs ∧ Dt K H (.tuple [.str k, .str z]) va ∧ ∀ H' v, Same H H' → Dt K H' (lookedUp prs k z) v → Q v H'
theorem ok_looked_up {C : Addr} (D : DfM K C "looked_up" "Project.looked_up" s_Project_looked_up ["self", "ask"]) (T : PCls K mg C) (B : NoB mg) (C_names_row : Cal P w K mg base CX0 "names_row" ["names"] 1 (spNamesRow K)) : CalM P w K mg base CX0 C "looked_up" ["self", "ask"] 2 (spLookedUp K C) := by
  refine D.cal fun f fd F => F.ok sc_Project_looked_up (fun vs H Q E h => ?_) (fun cdv A outer s H vs Q E hr h => ?_)
  · obtain ⟨_, _, _, _, _, rfl, _⟩ := h
    rfl
  · obtain ⟨p, va, prs, k, z, rfl, ⟨dx, t, kvs, e1, e2, hk⟩, hok, hva, q⟩ := h
    refine ⟨_, (pss_cons (ps_asg (pv 1) (pg_tupU (n := 2) K (by rfl) (pgs_cons (pg_name (i := 2) sc_Project_looked_up.nd rfl (.inl rfl)) (pgs_cons (pg_name (i := 3) sc_Project_looked_up.nd rfl (.inr rfl)) pgs_nil))))
      (pss_cons (ps_if (pt_cmpR (op_eqU K hr.units) (pv 2) pe_str (nomark _)) (pss_one (ps_ret (pe_ix (ix_U K) (pe_lst (pa_cons pe_str (pa_cons pe_str pa_nil))) (pe_callTy call_intU (by rfl) B.m_int (by decide +kernel) (pa_cons (pe_cmp (pc_din (hu_of hr) (pv 3) (pe_fldU K (pv 0) rfl)) rfl) pa_nil)) (fun _ _ => rfl)))) pss_nil)
      (pss_one (ps_ret (pe_cal C_names_row hr (by rfl) (pa_cons (pe_lc (own := [("name", 4)]) (by rfl) sc_Project_looked_up.nd (pi_listU K (pe_callB (call_sortSU K) (by rfl) B.m_sorted (by decide +kernel) (pa_cons (pe_callTy (call_listDk rfl) (by rfl) B.m_list (by decide +kernel) (pa_cons (pe_fldU K (pv 0) rfl) pa_nil)) pa_nil))) (blkOk_by (own := [("name", 4)]) (N := ["self", "ask", "kind", "text", "name"]) (sc := defScope s_Project_looked_up) (by decide +kernel)) (fun _ _ _ _ _ => pg_name (i := 4) sc_Project_looked_up.nd rfl (Or.inl rfl)) (fun _ _ _ _ _ => pts_one (pt_val (pe_m1 PySem.F.slot_str_startswith PySem.F.type_str_startswith mt_startswith (pv 4) (pv 3)))) (fun _ _ _ _ _ => (pv 4))) pa_nil)))))), ?_⟩
    obtain ⟨a, x1, x2, rfl, ha, hx1, hx2⟩ := hva.pair
    have ex := hx1.str
    subst ex
    have ex := hx2.str
    subst ex
    walk_at "rd"
    refine i_gtup ha rfl ?_
    walk_at "rd"
    rw [decS]
    unfold lookedUp at q
    by_cases hkh : k = "has"
    · rw [decide_eq_true (p := k = "has") hkh]
      rw [if_pos hkh] at q
      walk_at "rd"
      refine i_new_l (by show 2 ≤ sizeLine; decide) fun l H1 n1 s1 e3 => ?_
      walk_at "rd"
      refine i_fk (s1 _ _ e1) T.cl T.nT rfl ?_
      refine i_dik (s1 _ _ e2) ?_
      walk_at "rd"
      rcases kvs_look hk hok.nd z with ⟨h0, h1, h2⟩ | ⟨s, v, h0, h1, h2, h3⟩
      · rw [h2]
        refine i_ix_l (.inl (.inl e3)) (atI_nat (j := 0) rfl) ?_
        rw [if_neg h0] at q
        exact q H1 _ s1 (dt_str : Dt K H1 (.str "no") _)
      · rw [h2]
        refine i_ix_l (.inl (.inl e3)) (atI_nat (j := 1) rfl) ?_
        rw [if_pos h0] at q
        exact q H1 _ s1 (dt_str : Dt K H1 (.str "yes") _)
    · rw [decide_eq_false (p := k = "has") hkh]
      rw [if_neg hkh] at q
      walk_at "rd"
      refine i_fk e1 T.cl T.nT rfl ?_
      walk_at "rd"
      refine i_listDk e2 fun l1 H1 n1 s1 e3 => ?_
      have e4 : (kvs.map fun kv => kV kv.1) = (names prs).map V.str := by
        have := congrArg (List.map kV) hk.keys
        rw [List.map_map, List.map_map] at this
        exact this
      rw [e4] at e3
      walk_at "rd"
      have hln := hok.ln
      refine i_sortS (.inl (.inl e3)) (by unfold names; rw [List.length_map]; omega) fun l2 H2 n2 s2 e5 => ?_
      have hsl : (srtN (names prs)).length = prs.length := by rw [(srtN_perm _).length_eq]; unfold names; rw [List.length_map]
      have s12 := s1.trans s2
      refine c_list (.inl (.inl e5)) (szlt (by rw [List.length_map]; omega)) (fun D i acc H3 => Same H2 H3 ∧ acc = (((srtN (names prs)).take i).filter fun n => Txt.startswith n z).map V.str) ?_ ?_ ?_ ?_
      · exact fun D H3 _ s3 _ => ⟨s3, rfl⟩
      · exact fun D i acc H3 _ h => h.1.seq (.inl (.inl e5))
      · rintro D i x acc H3 hD hx hl hi ha3 ⟨s3, rfl⟩
        rw [List.getElem?_map] at hx
        cases hy : (srtN (names prs))[i]? with
        | none => rw [hy] at hx; cases hx
        | some y =>
        rw [hy] at hx
        cases (Option.some.inj hx)
        walk_at "rd"
        refine ⟨rfl, ?_⟩
        walk_at "rd"
        refine ⟨_, _, rfl, rfl, ?_⟩
        walk_at "rd"
        cases hst : Txt.startswith y z with
        | true =>
          refine iteT ?_
          walk_at "rd"
          refine i_ck ha3 hl hi fun H4 b4 e6 => ⟨Same.but s3 hD b4, ?_⟩
          rw [take_snoc hy, List.filter_append, List.map_append, List.filter_cons_of_pos (by exact hst)]
          rfl
        | false =>
          refine iteF ?_
          refine ⟨_, Nat.le_succ_of_le hl, ha3, s3, ?_⟩
          rw [take_snoc hy, List.filter_append, List.map_append, List.filter_cons_of_neg (by rw [hst]; exact fun h => by cases h)]
          simp
      · rintro D acc H3 hD hl ha3 ⟨s3, rfl⟩
        rw [List.length_map, List.take_length] at ha3
        walk_at "rd"
        refine ⟨D, namesBy prs z, rfl, ha3, ?_, fun H4 v s4 hv => q H4 v ((s12.trans s3).trans s4) hv⟩
        intro n hn
        have h1 := (srtN_perm (names prs)).mem_iff.mp (List.mem_filter.mp hn).1
        obtain ⟨p, hp2, rfl⟩ := List.mem_map.mp h1
        exact hok.nm p hp2
end
end Aw

namespace Aw
open PySem PySem.Spec PyProof.Rows L2

local macro_rules | `(tactic| walk_at "rd1") => `(tactic| first
  | ((with_reducible apply i_var); exact rfl)
  | with_reducible refine i_c ?_
  | with_reducible refine i_op ?_
  | with_reducible refine i_un ?_
  | with_reducible refine i_test ?_
  | with_reducible refine i_tB ?_
  | with_reducible refine i_bl ?_
  | with_reducible refine i_and ?_
  | with_reducible refine i_or ?_
  | with_reducible refine i_not ?_
  | with_reducible refine i_andV ?_
  | with_reducible refine i_orV ?_
  | with_reducible refine i_notV ?_
  | with_reducible refine i_if ?_
  | with_reducible refine i_chain ?_
  | with_reducible refine i_nil ?_
  | with_reducible refine i_cons ?_
  | with_reducible refine i_tup ?_
  | with_reducible refine i_lst ?_
  | with_reducible refine i_cb ?_
  | with_reducible refine i_call ?_
  | with_reducible refine i_bm ?_
  | with_reducible refine i_m1 ?_
  | with_reducible refine i_m0 ?_
  | with_reducible refine i_exstr ?_
  | with_reducible refine i_sl ?_
  | with_reducible refine i_nopart ?_
  | with_reducible refine i_part ?_
  | with_reducible refine i_int ?_
  | with_reducible refine i_seq ?_
  | with_reducible refine i_next ?_
  | with_reducible refine i_asg ?_
  | with_reducible refine i_gname ?_
  | with_reducible refine i_ret ?_
  | with_reducible refine i_retN ?_
  | with_reducible refine i_drop ?_
  | with_reducible refine i_ifS ?_
  | with_reducible refine i_break ?_
  | with_reducible refine i_cont ?_
  | ((with_reducible apply i_aug); exact rfl)
  | with_reducible refine i_add_i ?_
  | with_reducible refine i_sub ?_
  | with_reducible refine i_neg ?_
  | with_reducible refine i_ipadd_i ?_
  | with_reducible refine i_ip ?_
  | with_reducible refine i_lt ?_
  | with_reducible refine i_le ?_
  | with_reducible refine i_gt ?_
  | with_reducible refine i_ge ?_
  | with_reducible refine i_lt_s ?_
  | with_reducible refine i_le_s ?_
  | with_reducible refine i_gt_s ?_
  | with_reducible refine i_ge_s ?_
  | with_reducible refine i_isN ?_
  | with_reducible refine i_notN ?_
  | with_reducible refine i_in_c ?_
  | with_reducible refine i_nin_c ?_
  | with_reducible refine i_gsub ?_
  | with_reducible refine i_gcons ?_
  | with_reducible refine i_gnil ?_
  | with_reducible refine i_iList ?_
  | with_reducible refine i_iTup ?_
  | with_reducible refine i_iStr ?_
  | with_reducible refine i_iRng1 ?_
  | with_reducible refine i_lc ?_
  | with_reducible refine i_for ?_
  | with_reducible refine i_yes ?_
  | with_reducible refine i_repl ?_
  | with_reducible refine i_meth ?_
  | with_reducible refine i_fld ?_
  | with_reducible refine i_sfld ?_
  | with_reducible refine i_din ?_
  | with_reducible refine i_dnin ?_
  | with_reducible refine i_dget ?_
  | with_reducible refine i_dput ?_
  | with_reducible refine i_joined ?_
  | with_reducible refine i_callS ?_
  | with_reducible refine i_xf ?_
  | with_reducible refine i_revL ?_
  | with_reducible refine i_items ?_
  | with_reducible refine i_stepL ?_
  | with_reducible refine i_make ?_
  | with_reducible refine i_fmt ?_
  | with_reducible refine i_jcons ?_
  | with_reducible refine i_jnil ?_
  | with_reducible refine i_iEnum ?_
  | with_reducible refine i_faug ?_
  | with_reducible refine i_dget2 ?_
  | with_reducible refine i_kin ?_
  | with_reducible refine i_kix ?_
  | with_reducible refine i_bm0 ?_
  | with_reducible refine i_meth ?_
  | with_reducible refine iteT ?_
  | with_reducible refine iteF ?_
  | with_reducible refine iteNT ?_
  | with_reducible refine iteNF ?_
  | ((with_reducible refine i_len_s ?_ ?_); (first | assumption | exact szl (by assumption)))
  | ((with_reducible refine i_sl_s ?_ ?_); (first | assumption | exact szl (by assumption)))
  | with_reducible refine i_int_b ?_
  | with_reducible refine i_abs ?_
  | with_reducible refine i_min2 ?_
  | with_reducible refine i_eq rfl ?_
  | with_reducible refine i_ne rfl ?_
  | with_reducible refine iteDR ?_
  | with_reducible refine iteRN ?_
  | with_reducible refine iteI1 ?_
  | with_reducible refine iteI2 ?_
  | with_reducible refine iteI3 ?_
  | with_reducible refine iteI4 ?_
  | with_reducible refine iteSN ?_
  | with_reducible refine iteNDR ?_
  | with_reducible refine iteNRN ?_
  | with_reducible refine iteNSN ?_
  | with_reducible refine iteST (by first | rfl | decide) ?_
  | with_reducible refine iteSF (by decide) ?_
  | with_reducible refine iteNST (by first | rfl | decide) ?_
  | with_reducible refine iteNSF (by decide) ?_)
local macro_rules | `(tactic| walk_at "rd") => `(tactic| repeat walk_at "rd1")

abbrev s_made_by : Stmt := topS 41
theorem sc_made_by : FnScope ["word", "parts", "boxes", "own"] ["word", "parts", "boxes", "own"] (defScope s_made_by) := ⟨rfl, rfl, rfl, by decide +kernel, rfl, by decide +kernel, by decide +kernel⟩
abbrev s_goes_there : Stmt := topS 42
theorem sc_goes_there : FnScope ["word", "parts", "boxes"] ["word", "parts", "boxes"] (defScope s_goes_there) := ⟨rfl, rfl, rfl, by decide +kernel, rfl, by decide +kernel, by decide +kernel⟩
section
variable {P : Program} {w : World} {K : PySem.W.Frag} {mg : Str → Option Value} {base : Heap}
/-- the box b is read -/
theorem i_box {H : Hp} {Q : VK} {a : Addr} {bs : List PyData} {bv : List V} {b : Nat} (e : H a = some (.dK (boxK bv))) (h : Dts K H bs bv) (hl : bs.length = 8) (hb : b < 8) (q : ∀ v, Dt K H (bxAt bs b) v → Q v H) : DGK (.ref a) (.str (bx b)) H Q := by
  obtain ⟨v, ev, dv⟩ := box_at h hl hb
  exact i_dgk e ev (q v dv)
structure BxAt (K : PySem.W.Frag) (H : Hp) (a : Addr) (bs : List PyData) : Prop where
  ex : ∃ bv, H a = some (.dK (boxK bv)) ∧ Dts K H bs bv
  len : bs.length = 8
  ok : ∀ d ∈ bs, treeOk d = true
theorem BxAt.same {H H' : Hp} {a : Addr} {bs : List PyData} (h : BxAt K H a bs) (s : Same H H') : BxAt K H' a bs := by
  obtain ⟨bv, e, d⟩ := h.ex
  exact ⟨⟨bv, s _ _ e, d.mono (.same s)⟩, h.len, h.ok⟩
theorem BxAt.g {H : Hp} {a : Addr} {bs : List PyData} (h : BxAt K H a bs) (b : Nat) : good (bxAt bs b) = true := (treeOk_good (bxAt_ok h.ok)).g
theorem i_bx {H : Hp} {Q : VK} {a : Addr} {bs : List PyData} {b : Nat} (h : BxAt K H a bs) (hb : b < 8) (q : ∀ v, Dt K H (bxAt bs b) v → Q v H) : DGK (.ref a) (.str (bx b)) H Q := by
  obtain ⟨bv, e, d⟩ := h.ex
  exact i_box e d h.len hb q
def makes : Ln → Bool
  | .ask _ _ | .has _ _ | .names _ _ | .go _ | .like _ _ _ | .rowed _ _ | .none _ _ | .say _ | .fault => false
  | _ => true
theorem dts1 {H : Hp} {d : PyData} {xs : List V} (h : Dts K H [d] xs) : ∃ v, xs = [v] ∧ Dt K H d v := by
  obtain ⟨v, r, rfl, hv, hr⟩ := h.cons
  rw [hr.nil]
  exact ⟨v, rfl, hv⟩
theorem dts2 {H : Hp} {d e : PyData} {xs : List V} (h : Dts K H [d, e] xs) : ∃ v u, xs = [v, u] ∧ Dt K H d v ∧ Dt K H e u := by
  obtain ⟨v, r, rfl, hv, hr⟩ := h.cons
  obtain ⟨u, rfl, hu⟩ := dts1 hr
  exact ⟨v, u, rfl, hv, hu⟩
theorem dts3 {H : Hp} {d e f : PyData} {xs : List V} (h : Dts K H [d, e, f] xs) : ∃ v u z, xs = [v, u, z] ∧ Dt K H d v ∧ Dt K H e u ∧ Dt K H f z := by
  obtain ⟨v, r, rfl, hv, hr⟩ := h.cons
  obtain ⟨u, z, rfl, hu, hz⟩ := dts2 hr
  exact ⟨v, u, z, rfl, hv, hu, hz⟩
def spMade (K : PySem.W.Frag) : Sp := fun vs H Q _ => ∃ (l : Ln) (m : Nat) (word : Str) (vp : V) (a : Addr) (own : Str) (bs : List PyData), vs = [.str word, vp, .ref a, .str own] ∧ word = l.row.1 ∧ makes l = true ∧ l.ok m ∧ Dt K H (.tuple l.row.2) vp ∧ BxAt K H a bs ∧ ∀ H' v, Same H H' → OD K H' (madeL bs own l) v → Q v H'
theorem ok_made_by (D : Df K mg "made_by" "made_by" s_made_by ["word", "parts", "boxes", "own"]) (C_joined_up : Cal P w K mg base CX0 "joined_up" ["word", "one", "two"] 1 (spJoined K)) (C_parted_by : Cal P w K mg base CX0 "parted_by" ["tree", "between"] 1 (spParted K))
    (C_glued_by : Cal P w K mg base CX0 "glued_by" ["tree", "between"] 1 (spGlued K)) (C_taken_from : Cal P w K mg base CX0 "taken_from" ["word", "tree"] 1 (spTaken K)) : Cal P w K mg base CX0 "made_by" ["word", "parts", "boxes", "own"] 2 (spMade K) := by
  refine D.cal fun f fd F => F.ok sc_made_by (fun vs H Q E h => ?_) (fun cdv A outer s H vs Q E hr h => ?_)
  · obtain ⟨_, _, _, _, _, _, _, rfl, _⟩ := h
    rfl
  · obtain ⟨l, m, word, vp, a, own, bs, rfl, hw, hmk, hok, hp, hb, q⟩ := h
    refine ⟨_, (pss_cons (ps_if (pt_cmpR (op_eqU K hr.units) (pv 0) pe_str (nomark _)) (pss_one (ps_ret (pe_ix (ix_U K) (pv 1) pe_int (fun _ _ => rfl)))) pss_nil)
      (pss_cons (ps_if (pt_cmpR (op_eqU K hr.units) (pv 0) pe_str (nomark _)) (pss_one (ps_ret (pv 3))) pss_nil)
      (pss_cons (ps_if (pt_cmpR (op_eqU K hr.units) (pv 0) pe_str (nomark _)) (pss_one (ps_ret (pe_tup pa_nil))) pss_nil)
      (pss_cons (ps_if (pt_cmpR (op_eqU K hr.units) (pv 0) pe_str (nomark _)) (pss_one (ps_ret (pe_dget (hu_of hr) (pv 2) (pe_ix (ix_U K) (pv 1) pe_int (fun _ _ => rfl)) (fun _ _ => rfl)))) pss_nil)
      (pss_cons (ps_if (pt_cmpR (op_inU K) (pv 0) (pe_tup (pa_cons pe_str (pa_cons pe_str pa_nil))) (by with_unfolding_all rfl)) (pss_one (ps_ret (pe_cal C_joined_up hr (by rfl) (pa_cons (pv 0) (pa_cons (pe_dget (hu_of hr) (pv 2) (pe_ix (ix_U K) (pv 1) pe_int (fun _ _ => rfl)) (fun _ _ => rfl)) (pa_cons (pe_dget (hu_of hr) (pv 2) (pe_ix (ix_U K) (pv 1) pe_int (fun _ _ => rfl)) (fun _ _ => rfl)) pa_nil)))))) pss_nil)
      (pss_cons (ps_if (pt_cmpR (op_eqU K hr.units) (pv 0) pe_str (nomark _)) (pss_one (ps_ret (pe_cal C_parted_by hr (by rfl) (pa_cons (pe_dget (hu_of hr) (pv 2) (pe_ix (ix_U K) (pv 1) pe_int (fun _ _ => rfl)) (fun _ _ => rfl)) (pa_cons (pe_dget (hu_of hr) (pv 2) (pe_ix (ix_U K) (pv 1) pe_int (fun _ _ => rfl)) (fun _ _ => rfl)) pa_nil))))) pss_nil)
      (pss_cons (ps_if (pt_cmpR (op_eqU K hr.units) (pv 0) pe_str (nomark _)) (pss_one (ps_ret (pe_cal C_glued_by hr (by rfl) (pa_cons (pe_dget (hu_of hr) (pv 2) (pe_ix (ix_U K) (pv 1) pe_int (fun _ _ => rfl)) (fun _ _ => rfl)) (pa_cons (pe_dget (hu_of hr) (pv 2) (pe_ix (ix_U K) (pv 1) pe_int (fun _ _ => rfl)) (fun _ _ => rfl)) pa_nil))))) pss_nil)
      (pss_one (ps_ret (pe_cal C_taken_from hr (by rfl) (pa_cons (pv 0) (pa_cons (pe_dget (hu_of hr) (pv 2) (pe_ix (ix_U K) (pv 1) pe_int (fun _ _ => rfl)) (fun _ _ => rfl)) pa_nil)))))))))))), ?_⟩
    obtain ⟨t, xs, rfl, hs, hq⟩ := hp.tup
    cases l with
    | text b z =>
      obtain rfl : word = "text" := hw
      obtain ⟨v, u, rfl, hv, hu⟩ := dts2 hq
      have e := hu.str
      subst e
      walk_at "rd"
      refine i_ix_t hs (atI_nat (j := 1) rfl) ?_
      exact q H _ (.refl H) (dt_str : Dt K H (.str z) _)
    | self b =>
      obtain rfl : word = "self" := hw
      walk_at "rd"
      exact q H _ (.refl H) (dt_str : Dt K H (.str own) _)
    | emp b =>
      obtain rfl : word = "row" := hw
      walk_at "rd"
      refine i_new_t (Nat.zero_le _) fun t1 H1 n1 s1 e1 => ?_
      exact q H1 _ s1 (dt_tup (.inl (.inl e1)) dts_nil : Dt K H1 (.tuple []) _)
    | copy b c =>
      obtain rfl : word = "copy" := hw
      obtain ⟨v, u, rfl, hv, hu⟩ := dts2 hq
      have e := hu.str
      subst e
      walk_at "rd"
      refine i_ix_t hs (atI_nat (j := 1) rfl) ?_
      refine i_bx hb hok.2 fun v2 h2 => ?_
      exact q H _ (.refl H) h2
    | put b c =>
      obtain rfl : word = "put" := hw
      obtain ⟨v, u, rfl, hv, hu⟩ := dts2 hq
      have e := hv.str
      subst e
      have e := hu.str
      subst e
      walk_at "rd"
      refine i_new_t (by show 2 ≤ sizeLine; decide) fun t1 H1 n1 s1 e1 => ?_
      refine i_in_t (.inl (.inl e1)) rfl rfl ?_
      rw [show inV (V.str "put") [V.str "put", V.str "join"] = true from by decide +kernel]
      walk_at "rd"
      refine i_ix_t (sqT_tt (.same s1) hs) (atI_nat (j := 0) rfl) ?_
      refine i_bx (hb.same s1) hok.1 fun v2 h2 => ?_
      walk_at "rd"
      refine i_ix_t (sqT_tt (.same s1) hs) (atI_nat (j := 1) rfl) ?_
      refine i_bx (hb.same s1) hok.2 fun v3 h3 => ?_
      walk_at "rd"
      exact ⟨_, _, _, _, _, rfl, h2, h3, hb.g b, hb.g c, fun H2 v s2 h => q H2 v (s1.trans s2) h⟩
    | join b c =>
      obtain rfl : word = "join" := hw
      obtain ⟨v, u, rfl, hv, hu⟩ := dts2 hq
      have e := hv.str
      subst e
      have e := hu.str
      subst e
      walk_at "rd"
      refine i_new_t (by show 2 ≤ sizeLine; decide) fun t1 H1 n1 s1 e1 => ?_
      refine i_in_t (.inl (.inl e1)) rfl rfl ?_
      rw [show inV (V.str "join") [V.str "put", V.str "join"] = true from by decide +kernel]
      walk_at "rd"
      refine i_ix_t (sqT_tt (.same s1) hs) (atI_nat (j := 0) rfl) ?_
      refine i_bx (hb.same s1) hok.1 fun v2 h2 => ?_
      walk_at "rd"
      refine i_ix_t (sqT_tt (.same s1) hs) (atI_nat (j := 1) rfl) ?_
      refine i_bx (hb.same s1) hok.2 fun v3 h3 => ?_
      walk_at "rd"
      exact ⟨_, _, _, _, _, rfl, h2, h3, hb.g b, hb.g c, fun H2 v s2 h => q H2 v (s1.trans s2) h⟩
    | cut b c d =>
      obtain rfl : word = "cut" := hw
      obtain ⟨v, u, y, rfl, hv, hu, hy⟩ := dts3 hq
      have e := hy.str
      subst e
      have e := hu.str
      subst e
      walk_at "rd"
      refine i_new_t (by show 2 ≤ sizeLine; decide) fun t1 H1 n1 s1 e1 => ?_
      refine i_in_t (.inl (.inl e1)) rfl rfl ?_
      rw [show inV (V.str "cut") [V.str "put", V.str "join"] = false from by decide +kernel]
      walk_at "rd"
      refine i_ix_t (sqT_tt (.same s1) hs) (atI_nat (j := 1) rfl) ?_
      refine i_bx (hb.same s1) hok.2.1 fun v2 h2 => ?_
      walk_at "rd"
      refine i_ix_t (sqT_tt (.same s1) hs) (atI_nat (j := 2) rfl) ?_
      refine i_bx (hb.same s1) hok.2.2 fun v3 h3 => ?_
      walk_at "rd"
      exact ⟨_, _, _, _, rfl, h2, h3, hb.g c, hb.g d, fun H2 v s2 h => q H2 v (s1.trans s2) h⟩
    | glue b c d =>
      obtain rfl : word = "glue" := hw
      obtain ⟨v, u, y, rfl, hv, hu, hy⟩ := dts3 hq
      have e := hy.str
      subst e
      have e := hu.str
      subst e
      walk_at "rd"
      refine i_new_t (by show 2 ≤ sizeLine; decide) fun t1 H1 n1 s1 e1 => ?_
      refine i_in_t (.inl (.inl e1)) rfl rfl ?_
      rw [show inV (V.str "glue") [V.str "put", V.str "join"] = false from by decide +kernel]
      walk_at "rd"
      refine i_ix_t (sqT_tt (.same s1) hs) (atI_nat (j := 1) rfl) ?_
      refine i_bx (hb.same s1) hok.2.1 fun v2 h2 => ?_
      walk_at "rd"
      refine i_ix_t (sqT_tt (.same s1) hs) (atI_nat (j := 2) rfl) ?_
      refine i_bx (hb.same s1) hok.2.2 fun v3 h3 => ?_
      walk_at "rd"
      have hsz := (treeOk_good (bxAt_ok (b := c) hb.ok)).sz
      exact ⟨_, _, _, _, rfl, h2, h3, hb.g c, hb.g d, by omega, fun H2 v s2 h => q H2 v (s1.trans s2) h⟩
    | size b c =>
      obtain rfl : word = "size" := hw
      obtain ⟨v, u, rfl, hv, hu⟩ := dts2 hq
      have e := hu.str
      subst e
      walk_at "rd"
      refine i_new_t (by show 2 ≤ sizeLine; decide) fun t1 H1 n1 s1 e1 => ?_
      refine i_in_t (.inl (.inl e1)) rfl rfl ?_
      rw [show inV (V.str "size") [V.str "put", V.str "join"] = false from by decide +kernel]
      walk_at "rd"
      refine i_ix_t (sqT_tt (.same s1) hs) (atI_nat (j := 1) rfl) ?_
      refine i_bx (hb.same s1) hok.2 fun v2 h2 => ?_
      walk_at "rd"
      exact ⟨_, _, _, rfl, h2, hb.g c, fun H2 v s2 h => q H2 v (s1.trans s2) h⟩
    | first b c =>
      obtain rfl : word = "first" := hw
      obtain ⟨v, u, rfl, hv, hu⟩ := dts2 hq
      have e := hu.str
      subst e
      walk_at "rd"
      refine i_new_t (by show 2 ≤ sizeLine; decide) fun t1 H1 n1 s1 e1 => ?_
      refine i_in_t (.inl (.inl e1)) rfl rfl ?_
      rw [show inV (V.str "first") [V.str "put", V.str "join"] = false from by decide +kernel]
      walk_at "rd"
      refine i_ix_t (sqT_tt (.same s1) hs) (atI_nat (j := 1) rfl) ?_
      refine i_bx (hb.same s1) hok.2 fun v2 h2 => ?_
      walk_at "rd"
      exact ⟨_, _, _, rfl, h2, hb.g c, fun H2 v s2 h => q H2 v (s1.trans s2) h⟩
    | rest b c =>
      obtain rfl : word = "rest" := hw
      obtain ⟨v, u, rfl, hv, hu⟩ := dts2 hq
      have e := hu.str
      subst e
      walk_at "rd"
      refine i_new_t (by show 2 ≤ sizeLine; decide) fun t1 H1 n1 s1 e1 => ?_
      refine i_in_t (.inl (.inl e1)) rfl rfl ?_
      rw [show inV (V.str "rest") [V.str "put", V.str "join"] = false from by decide +kernel]
      walk_at "rd"
      refine i_ix_t (sqT_tt (.same s1) hs) (atI_nat (j := 1) rfl) ?_
      refine i_bx (hb.same s1) hok.2 fun v2 h2 => ?_
      walk_at "rd"
      exact ⟨_, _, _, rfl, h2, hb.g c, fun H2 v s2 h => q H2 v (s1.trans s2) h⟩
    | _ => cases hmk
def jumps : Ln → Bool
  | .go _ | .like _ _ _ | .rowed _ _ | .none _ _ => true
  | _ => false
def spGoes (K : PySem.W.Frag) : Sp := fun vs H Q _ => ∃ (l : Ln) (m : Nat) (word : Str) (vp : V) (a : Addr) (bs : List PyData), vs = [.str word, vp, .ref a] ∧ word = l.row.1 ∧ jumps l = true ∧ l.ok m ∧ Dt K H (.tuple l.row.2) vp ∧ BxAt K H a bs ∧ Q (.bl (goesL bs l)) H
theorem len_good {d : PyData} {v : V} {H : Hp} {Q : VK} (h : Dt K H d v) (g : good d = true) (q : Q (.int (lenD d : Nat)) H) : rLenU K [v] H Q := by
  rcases good_cases g with ⟨z, rfl, hl, _⟩ | ⟨ds, rfl, _⟩
  · rw [h.str]
    exact i_len_s (szl (by omega)) q
  · obtain ⟨a, xs, rfl, hs, hq⟩ := h.tup
    refine i_len_t hs ?_
    rw [hq.length]
    exact q
theorem ok_goes_there (D : Df K mg "goes_there" "goes_there" s_goes_there ["word", "parts", "boxes"]) (B : NoB mg) : Cal P w K mg base CX0 "goes_there" ["word", "parts", "boxes"] 1 (spGoes K) := by
  refine D.cal fun f fd F => F.ok sc_goes_there (fun vs H Q E h => ?_) (fun cdv A outer s H vs Q E hr h => ?_)
  · obtain ⟨_, _, _, _, _, _, rfl, _⟩ := h
    rfl
  · obtain ⟨l, m, word, vp, a, bs, rfl, hw, hmk, hok, hp, hb, q⟩ := h
    refine ⟨_, (pss_cons (ps_if (pt_cmpR (op_eqU K hr.units) (pv 0) pe_str (nomark _)) (pss_one (ps_ret pe_bl)) pss_nil)
      (pss_cons (ps_if (pt_cmpR (op_eqU K hr.units) (pv 0) pe_str (nomark _)) (pss_one (ps_ret (pe_cmpR (op_eqU K hr.units) (pe_dget (hu_of hr) (pv 2) (pe_ix (ix_U K) (pv 1) pe_int (fun _ _ => rfl)) (fun _ _ => rfl)) (pe_dget (hu_of hr) (pv 2) (pe_ix (ix_U K) (pv 1) pe_int (fun _ _ => rfl)) (fun _ _ => rfl)) (nomark _)))) pss_nil)
      (pss_cons (ps_if (pt_cmpR (op_eqU K hr.units) (pv 0) pe_str (nomark _)) (pss_one (ps_ret (pe_callB (call_isiU K) (by rfl) B.m_isinstance (by decide +kernel) (pa_cons (pe_dget (hu_of hr) (pv 2) (pe_ix (ix_U K) (pv 1) pe_int (fun _ _ => rfl)) (fun _ _ => rfl)) (pa_cons (pe_ty (T := "tuple") (by rfl) B.m_tuple (by decide +kernel)) pa_nil))))) pss_nil)
      (pss_one (ps_ret (pe_cmpR (op_eqU K hr.units) (pe_callB (call_lenU K) (by rfl) B.m_len (by decide +kernel) (pa_cons (pe_dget (hu_of hr) (pv 2) (pe_ix (ix_U K) (pv 1) pe_int (fun _ _ => rfl)) (fun _ _ => rfl)) pa_nil)) pe_int (nomark _))))))), ?_⟩
    obtain ⟨t, xs, rfl, hs, hq⟩ := hp.tup
    cases l with
    | go n =>
      obtain rfl : word = "go" := hw
      walk_at "rd"
      exact q
    | like b c n =>
      obtain rfl : word = "like" := hw
      obtain ⟨v, u, y, rfl, hv, hu, hy⟩ := dts3 hq
      have e := hv.str
      subst e
      have e := hu.str
      subst e
      walk_at "rd"
      refine i_ix_t hs (atI_nat (j := 0) rfl) ?_
      refine i_bx hb hok.1 fun v2 h2 => ?_
      walk_at "rd"
      refine i_ix_t hs (atI_nat (j := 1) rfl) ?_
      refine i_bx hb hok.2.1 fun v3 h3 => ?_
      refine .inr ⟨_, _, h2.dp, h3.dp, ?_, ?_, q⟩
      · unfold SeqAt.shaped
        have g := treeOk_good (bxAt_ok (b := b) hb.ok)
        have := depth_tdeep _ g.g
        have := g.dp
        rw [good_lay _ g.g, Bool.true_and]
        exact decide_eq_true (by omega)
      · unfold SeqAt.shaped
        have g := treeOk_good (bxAt_ok (b := c) hb.ok)
        have := depth_tdeep _ g.g
        have := g.dp
        rw [good_lay _ g.g, Bool.true_and]
        exact decide_eq_true (by omega)
    | rowed b n =>
      obtain rfl : word = "rowed" := hw
      obtain ⟨v, u, rfl, hv, hu⟩ := dts2 hq
      have e := hv.str
      subst e
      walk_at "rd"
      refine i_ix_t hs (atI_nat (j := 0) rfl) ?_
      refine i_bx hb hok.1 fun v2 h2 => ?_
      walk_at "rd"
      exact isi_tup h2 (hb.g b) rfl q
    | none b n =>
      obtain rfl : word = "none" := hw
      obtain ⟨v, u, rfl, hv, hu⟩ := dts2 hq
      have e := hv.str
      subst e
      walk_at "rd"
      refine i_ix_t hs (atI_nat (j := 0) rfl) ?_
      refine i_bx hb hok.1 fun v2 h2 => ?_
      walk_at "rd"
      refine len_good h2 (hb.g b) ?_
      walk_at "rd"
      rw [decI]
      have e : decide (((lenD (bxAt bs b) : Nat) : Int) = 0) = goesL bs (.none b n) := by
        show _ = decide (lenD (bxAt bs b) = 0)
        by_cases h : lenD (bxAt bs b) = 0
        · rw [decide_eq_true h, decide_eq_true (by omega)]
        · rw [decide_eq_false h, decide_eq_false (by omega)]
      rw [e]
      exact q
    | _ => cases hmk
end
end Aw

namespace Aw
open PySem PySem.Spec PyProof.Rows L2

local macro_rules | `(tactic| walk_at "rd1") => `(tactic| first
  | ((with_reducible apply i_var); exact rfl)
  | with_reducible refine i_c ?_
  | with_reducible refine i_op ?_
  | with_reducible refine i_un ?_
  | with_reducible refine i_test ?_
  | with_reducible refine i_tB ?_
  | with_reducible refine i_bl ?_
  | with_reducible refine i_and ?_
  | with_reducible refine i_or ?_
  | with_reducible refine i_not ?_
  | with_reducible refine i_andV ?_
  | with_reducible refine i_orV ?_
  | with_reducible refine i_notV ?_
  | with_reducible refine i_if ?_
  | with_reducible refine i_chain ?_
  | with_reducible refine i_nil ?_
  | with_reducible refine i_cons ?_
  | with_reducible refine i_tup ?_
  | with_reducible refine i_lst ?_
  | with_reducible refine i_cb ?_
  | with_reducible refine i_call ?_
  | with_reducible refine i_bm ?_
  | with_reducible refine i_m1 ?_
  | with_reducible refine i_m0 ?_
  | with_reducible refine i_exstr ?_
  | with_reducible refine i_sl ?_
  | with_reducible refine i_nopart ?_
  | with_reducible refine i_part ?_
  | with_reducible refine i_int ?_
  | with_reducible refine i_seq ?_
  | with_reducible refine i_next ?_
  | with_reducible refine i_asg ?_
  | with_reducible refine i_gname ?_
  | with_reducible refine i_ret ?_
  | with_reducible refine i_retN ?_
  | with_reducible refine i_drop ?_
  | with_reducible refine i_ifS ?_
  | with_reducible refine i_break ?_
  | with_reducible refine i_cont ?_
  | ((with_reducible apply i_aug); exact rfl)
  | with_reducible refine i_add_i ?_
  | with_reducible refine i_sub ?_
  | with_reducible refine i_neg ?_
  | with_reducible refine i_ipadd_i ?_
  | with_reducible refine i_ip ?_
  | with_reducible refine i_lt ?_
  | with_reducible refine i_le ?_
  | with_reducible refine i_gt ?_
  | with_reducible refine i_ge ?_
  | with_reducible refine i_lt_s ?_
  | with_reducible refine i_le_s ?_
  | with_reducible refine i_gt_s ?_
  | with_reducible refine i_ge_s ?_
  | with_reducible refine i_isN ?_
  | with_reducible refine i_notN ?_
  | with_reducible refine i_in_c ?_
  | with_reducible refine i_nin_c ?_
  | with_reducible refine i_gsub ?_
  | with_reducible refine i_gcons ?_
  | with_reducible refine i_gnil ?_
  | with_reducible refine i_iList ?_
  | with_reducible refine i_iTup ?_
  | with_reducible refine i_iStr ?_
  | with_reducible refine i_iRng1 ?_
  | with_reducible refine i_lc ?_
  | with_reducible refine i_for ?_
  | with_reducible refine i_yes ?_
  | with_reducible refine i_repl ?_
  | with_reducible refine i_meth ?_
  | with_reducible refine i_fld ?_
  | with_reducible refine i_sfld ?_
  | with_reducible refine i_din ?_
  | with_reducible refine i_dnin ?_
  | with_reducible refine i_dget ?_
  | with_reducible refine i_dput ?_
  | with_reducible refine i_joined ?_
  | with_reducible refine i_callS ?_
  | with_reducible refine i_xf ?_
  | with_reducible refine i_revL ?_
  | with_reducible refine i_items ?_
  | with_reducible refine i_stepL ?_
  | with_reducible refine i_make ?_
  | with_reducible refine i_fmt ?_
  | with_reducible refine i_jcons ?_
  | with_reducible refine i_jnil ?_
  | with_reducible refine i_iEnum ?_
  | with_reducible refine i_faug ?_
  | with_reducible refine i_dget2 ?_
  | with_reducible refine i_kin ?_
  | with_reducible refine i_kix ?_
  | with_reducible refine i_bm0 ?_
  | with_reducible refine i_meth ?_
  | with_reducible refine iteT ?_
  | with_reducible refine iteF ?_
  | with_reducible refine iteNT ?_
  | with_reducible refine iteNF ?_
  | ((with_reducible refine i_len_s ?_ ?_); (first | assumption | exact szl (by assumption)))
  | ((with_reducible refine i_sl_s ?_ ?_); (first | assumption | exact szl (by assumption)))
  | with_reducible refine i_int_b ?_
  | with_reducible refine i_abs ?_
  | with_reducible refine i_min2 ?_
  | with_reducible refine i_eq rfl ?_
  | with_reducible refine i_ne rfl ?_
  | with_reducible refine iteDR ?_
  | with_reducible refine iteRN ?_
  | with_reducible refine iteI1 ?_
  | with_reducible refine iteI2 ?_
  | with_reducible refine iteI3 ?_
  | with_reducible refine iteI4 ?_
  | with_reducible refine iteSN ?_
  | with_reducible refine iteNDR ?_
  | with_reducible refine iteNRN ?_
  | with_reducible refine iteNSN ?_
  | with_reducible refine iteST (by first | rfl | decide) ?_
  | with_reducible refine iteSF (by decide) ?_
  | with_reducible refine iteNST (by first | rfl | decide) ?_
  | with_reducible refine iteNSF (by decide) ?_)
local macro_rules | `(tactic| walk_at "rd") => `(tactic| repeat walk_at "rd1")

section
variable {P : Program} {w : World} {K : PySem.W.Frag} {mg : Str → Option Value} {base : Heap} {CX : CXT} {k : Nat} {f : Addr} {fd : FuncData} {ps : List Str} {sp sp' : Sp} {x : Str}
theorem FnOk.or (F : FnOk P w K mg base CX k f fd ps sp) (G : FnOk P w K mg base CX k f fd ps sp') : FnOk P w K mg base CX k f fd ps (fun vs H Q E => sp vs H Q E ∨ sp' vs H Q E) :=
  ⟨fun vs H Q E q => q.elim (F.len vs H Q E) (G.len vs H Q E), fun A outer s H args us vs Q E hr he hb hv hs => hs.elim (F.run A outer s H args us vs Q E hr he hb hv) (G.run A outer s H args us vs Q E hr he hb hv)⟩
theorem Cal.imp (C : Cal P w K mg base CX x ps k sp) (h : ∀ vs H Q E, sp' vs H Q E → sp vs H Q E) : Cal P w K mg base CX x ps k sp' := by
  obtain ⟨f, fd, F, r⟩ := C.ex
  exact ⟨f, fd, F.imp h, r⟩
theorem Cal.mono {j : Nat} (C : Cal P w K mg base CX x ps k sp) (h : k ≤ j) : Cal P w K mg base CX x ps j sp := by
  obtain ⟨f, fd, F, r⟩ := C.ex
  exact ⟨f, fd, F.mono h, r⟩
def nameD : PyData → Bool
  | .str z => nameOk z
  | _ => false
def spIsNameD (K : PySem.W.Frag) : Sp := fun vs H Q _ => ∃ (v : V) (d : PyData), vs = [v] ∧ Dt K H d v ∧ lim d = true ∧ ∀ H', Same H H' → Q (.bl (nameD d)) H'
theorem lim_str {z : Str} (h : lim (.str z) = true) : z.length ≤ 100000 := by simp only [lim, decide_eq_true_eq] at h; exact h
theorem ok_is_nameD (D : Df K mg "is_name" "is_name" s_is_name ["value"]) (B : NoB mg) (G : GNames mg) : Cal P w K mg base CX0 "is_name" ["value"] 1 (spIsNameD K) := by
  refine D.cal fun f fd F => FnOk.imp (FnOk.or (fn_is_name F B G) (sp' := fun vs H Q _ => ∃ (v : V) (T : String), vs = [v] ∧ TyX K H v (.type T) ∧ kitB T "str" = some false ∧ Q (.bl false) H) ?_) fun vs H Q E ⟨v, d, e, h, l, q⟩ => ?_
  · have g_MOST_NAME := G.most
    have g_LETTERS := G.lets
    have g_NAME_SIGNS := G.sgns
    refine F.ok sc_is_name (fun vs H Q E h => ?_) (fun cdv A outer s H vs Q E hr h => ?_)
    · obtain ⟨z, _, rfl, _⟩ := h
      rfl
    · obtain ⟨v, T, rfl, ty, kt, q⟩ := h
      refine ⟨_, (pss_cons (ps_if (PW.pt (pw_or (pt_not (pt_val (pe_callB (call_isiU K) (by rfl) B.m_isinstance (by decide +kernel) (pa_cons (pv 0) (pa_cons (pe_ty (T := "str") (by rfl) B.m_str (by decide +kernel)) pa_nil))))) (pw_or (pt_not (pt_chain op_leU op_leU pe_int (pe_callB (call_lenU K) (by rfl) B.m_len (by decide +kernel) (pa_cons (pv 0) pa_nil)) (pe_gv (by rfl) g_MOST_NAME))) (pw_or1 (pt_cmpR (op_ninU K) (pe_ix (ix_U K) (pv 0) pe_int (fun _ _ => rfl)) (pe_gv (by rfl) g_LETTERS) (by with_unfolding_all rfl)))))) (pss_one (ps_ret pe_bl)) pss_nil)
      (pss_one (ps_ret (pe_callB (call_allU K rfl) (by rfl) B.m_all (by decide +kernel) (pa_cons (pe_lc (own := [("sign", 1)]) (by rfl) sc_is_name.nd (pi_str (pv 0)) (blkOk_by (own := [("sign", 1)]) (N := ["value", "sign"]) (sc := defScope s_is_name) (by decide +kernel)) (fun _ _ _ _ _ => pg_name (i := 1) sc_is_name.nd rfl (Or.inl rfl)) (fun _ _ _ _ _ => pts_nil) (fun _ _ _ _ _ => (pe_cmpR (op_inU K) (pv 1) (pe_gv (by rfl) g_NAME_SIGNS) (by with_unfolding_all rfl)))) pa_nil))))), ?_⟩
      walk_at "rd"
      refine i_isi (b := false) ty kt ?_
      walk_at "rd"
      exact q
  · subst e
    rcases ty_dt h with ⟨z, rfl, rfl⟩ | ⟨ds, a, xs, rfl, rfl, hs, _⟩ | ⟨⟨T, ty, k1, _⟩, hn⟩
    · exact .inl ⟨z, rfl, lim_str l, q⟩
    · exact .inr ⟨_, _, rfl, ty_sq hs, by decide +kernel, q H (.refl H)⟩
    · refine .inr ⟨_, _, rfl, ty, k1, ?_⟩
      have e : nameD d = false := by
        cases d with
        | str z =>
          have := hn 1 (z.length + 1)
          rw [h.str] at ty
          exfalso
          cases ty with
          | base t =>
            cases t
            revert k1
            decide +kernel
        | _ => rfl
      have q := q H (.refl H)
      rw [e] at q
      exact q
end
end Aw

namespace Aw
open PySem PySem.Spec PyProof.Rows L2

local macro_rules | `(tactic| walk_at "rd1") => `(tactic| first
  | ((with_reducible apply i_var); exact rfl)
  | with_reducible refine i_c ?_
  | with_reducible refine i_op ?_
  | with_reducible refine i_un ?_
  | with_reducible refine i_test ?_
  | with_reducible refine i_tB ?_
  | with_reducible refine i_bl ?_
  | with_reducible refine i_and ?_
  | with_reducible refine i_or ?_
  | with_reducible refine i_not ?_
  | with_reducible refine i_andV ?_
  | with_reducible refine i_orV ?_
  | with_reducible refine i_notV ?_
  | with_reducible refine i_if ?_
  | with_reducible refine i_chain ?_
  | with_reducible refine i_nil ?_
  | with_reducible refine i_cons ?_
  | with_reducible refine i_tup ?_
  | with_reducible refine i_lst ?_
  | with_reducible refine i_cb ?_
  | with_reducible refine i_call ?_
  | with_reducible refine i_bm ?_
  | with_reducible refine i_m1 ?_
  | with_reducible refine i_m0 ?_
  | with_reducible refine i_exstr ?_
  | with_reducible refine i_sl ?_
  | with_reducible refine i_nopart ?_
  | with_reducible refine i_part ?_
  | with_reducible refine i_int ?_
  | with_reducible refine i_seq ?_
  | with_reducible refine i_next ?_
  | with_reducible refine i_asg ?_
  | with_reducible refine i_gname ?_
  | with_reducible refine i_ret ?_
  | with_reducible refine i_retN ?_
  | with_reducible refine i_drop ?_
  | with_reducible refine i_ifS ?_
  | with_reducible refine i_break ?_
  | with_reducible refine i_cont ?_
  | ((with_reducible apply i_aug); exact rfl)
  | with_reducible refine i_add_i ?_
  | with_reducible refine i_sub ?_
  | with_reducible refine i_neg ?_
  | with_reducible refine i_ipadd_i ?_
  | with_reducible refine i_ip ?_
  | with_reducible refine i_lt ?_
  | with_reducible refine i_le ?_
  | with_reducible refine i_gt ?_
  | with_reducible refine i_ge ?_
  | with_reducible refine i_lt_s ?_
  | with_reducible refine i_le_s ?_
  | with_reducible refine i_gt_s ?_
  | with_reducible refine i_ge_s ?_
  | with_reducible refine i_isN ?_
  | with_reducible refine i_notN ?_
  | with_reducible refine i_in_c ?_
  | with_reducible refine i_nin_c ?_
  | with_reducible refine i_gsub ?_
  | with_reducible refine i_gcons ?_
  | with_reducible refine i_gnil ?_
  | with_reducible refine i_iList ?_
  | with_reducible refine i_iTup ?_
  | with_reducible refine i_iStr ?_
  | with_reducible refine i_iRng1 ?_
  | with_reducible refine i_lc ?_
  | with_reducible refine i_for ?_
  | with_reducible refine i_yes ?_
  | with_reducible refine i_repl ?_
  | with_reducible refine i_meth ?_
  | with_reducible refine i_fld ?_
  | with_reducible refine i_sfld ?_
  | with_reducible refine i_din ?_
  | with_reducible refine i_dnin ?_
  | with_reducible refine i_dget ?_
  | with_reducible refine i_dput ?_
  | with_reducible refine i_joined ?_
  | with_reducible refine i_callS ?_
  | with_reducible refine i_xf ?_
  | with_reducible refine i_revL ?_
  | with_reducible refine i_items ?_
  | with_reducible refine i_stepL ?_
  | with_reducible refine i_make ?_
  | with_reducible refine i_fmt ?_
  | with_reducible refine i_jcons ?_
  | with_reducible refine i_jnil ?_
  | with_reducible refine i_iEnum ?_
  | with_reducible refine iteT ?_
  | with_reducible refine iteF ?_
  | with_reducible refine iteNT ?_
  | with_reducible refine iteNF ?_
  | ((with_reducible refine i_len_s ?_ ?_); (first | assumption | exact szl (by assumption)))
  | ((with_reducible refine i_sl_s ?_ ?_); (first | assumption | exact szl (by assumption)))
  | with_reducible refine i_int_b ?_
  | with_reducible refine i_abs ?_
  | with_reducible refine i_min2 ?_
  | with_reducible refine i_eq rfl ?_
  | with_reducible refine i_ne rfl ?_)
local macro_rules | `(tactic| walk_at "rd") => `(tactic| repeat walk_at "rd1")

abbrev s_is_answer : Stmt := topS 36
theorem sc_is_answer : FnScope ["ask", "tree", "part"] ["ask", "tree"] (defScope s_is_answer) := ⟨rfl, rfl, rfl, by decide +kernel, rfl, by decide +kernel, by decide +kernel⟩
section
variable {P : Program} {w : World} {K : PySem.W.Frag} {mg : Str → Option Value} {base : Heap}
def spIsAnswer (K : PySem.W.Frag) : Sp := fun vs H Q _ => ∃ (va vt : V) (kind : Str) (x : PyData) (o : Option PyData), vs = [va, vt] ∧ Dt K H (.tuple [.str kind, x]) va ∧ OD K H o vt ∧ ansOk kind o ∧ ∀ H', Same H H' → Q (.bl true) H'
theorem ok_is_answer (D : Df K mg "is_answer" "is_answer" s_is_answer ["ask", "tree"]) (B : NoB mg) (C_is_tree : Cal P w K mg base CX0 "is_tree" ["value"] 15 (spIsTree K)) (C_is_name : Cal P w K mg base CX0 "is_name" ["value"] 1 spIsName) : Cal P w K mg base CX0 "is_answer" ["ask", "tree"] 16 (spIsAnswer K) := by
  refine D.cal fun f fd F => F.ok sc_is_answer (fun vs H Q E h => ?_) (fun cdv A outer s H vs Q E hr h => ?_)
  · obtain ⟨_, _, _, _, _, rfl, _⟩ := h
    rfl
  · obtain ⟨va, vt, kind, x, o, rfl, ha, ho, hok, q⟩ := h
    refine ⟨_, (pss_cons (ps_if (pt_cmpR (op_eqU K hr.units) (pe_ix (ix_U K) (pv 0) pe_int (fun _ _ => rfl)) pe_str (nomark _)) (pss_one (ps_ret (pe_or (pe_cmpR op_isNo (pv 1) pe_non (nomark _)) (pe_one (pe_cal C_is_tree hr (by rfl) (pa_cons (pv 1) pa_nil)))))) pss_nil)
      (pss_cons (ps_if (pt_cmpR (op_eqU K hr.units) (pe_ix (ix_U K) (pv 0) pe_int (fun _ _ => rfl)) pe_str (nomark _)) (pss_one (ps_ret (pe_and (pe_callB (call_isiU K) (by rfl) B.m_isinstance (by decide +kernel) (pa_cons (pv 1) (pa_cons (pe_ty (T := "str") (by rfl) B.m_str (by decide +kernel)) pa_nil))) (pe_one (pe_cmpR (op_inU K) (pv 1) (pe_tup (pa_cons pe_str (pa_cons pe_str pa_nil))) (by with_unfolding_all rfl)))))) pss_nil)
      (pss_one (ps_ret (pe_and (pe_callB (call_isiU K) (by rfl) B.m_isinstance (by decide +kernel) (pa_cons (pv 1) (pa_cons (pe_ty (T := "tuple") (by rfl) B.m_tuple (by decide +kernel)) pa_nil))) (pe_and (pe_cal C_is_tree hr (by rfl) (pa_cons (pv 1) pa_nil)) (pe_one (pe_callB (call_allU K rfl) (by rfl) B.m_all (by decide +kernel) (pa_cons (pe_lc (own := [("part", 2)]) (by rfl) sc_is_answer.nd (pi_tupU K (pv 1)) (blkOk_by (own := [("part", 2)]) (N := ["ask", "tree", "part"]) (sc := defScope s_is_answer) (by decide +kernel)) (fun _ _ _ _ _ => pg_name (i := 2) sc_is_answer.nd rfl (Or.inl rfl)) (fun _ _ _ _ _ => pts_nil) (fun _ _ _ _ _ => (pe_cal C_is_name hr (by rfl) (pa_cons (pv 2) pa_nil)))) pa_nil))))))))), ?_⟩
    obtain ⟨a, k1, k2, rfl, hs, hk1, hk2⟩ := ha.pair
    have e := hk1.str
    subst e
    walk_at "rd"
    refine i_ix_t hs (atI_nat (j := 0) rfl) ?_
    walk_at "rd"
    rw [wordD]
    rcases hok with ⟨rfl, h⟩ | ⟨rfl, h⟩ | ⟨rfl, ns, rfl, ht, hn⟩
    · rw [decide_eq_true rfl]
      walk_at "rd"
      cases o with
      | none =>
        have ho : vt = .non := ho
        subst ho
        rw [decide_eq_true rfl]
        walk_at "rd"
        exact q H (.refl H)
      | some d =>
        have ho : Dt K H d vt := ho
        have hd := h d rfl
        have hg := (treeOk_good hd).g
        rw [decide_eq_false (fun e : vt = V.non => by
          rcases good_cases hg with ⟨z, ez, _⟩ | ⟨ds, ez, _⟩
          · rw [ez] at ho; rw [ho.str] at e; cases e
          · rw [ez] at ho; obtain ⟨a, _, ea, _⟩ := ho.tup; rw [ea] at e; cases e)]
        walk_at "rd"
        refine ⟨vt, d, rfl, ho, lim_good d hg, fun H1 s1 => ?_⟩
        rw [hd]
        exact q H1 s1
    · rw [decide_eq_false (p := Str.ofString "has" = Str.ofString "thing") (by decide)]
      walk_at "rd"
      refine i_ix_t hs (atI_nat (j := 0) rfl) ?_
      walk_at "rd"
      rw [wordD, decide_eq_true rfl]
      have hz : ∃ z : Str, o = some (.str z) ∧ inV (V.str z) [V.str "yes", V.str "no"] = true := by
        rcases h with h | h
        · exact ⟨_, h, rfl⟩
        · exact ⟨_, h, by decide +kernel⟩
      obtain ⟨z, rfl, hin⟩ := hz
      have ho : Dt K H (.str z) vt := ho
      have e := ho.str
      subst e
      walk_at "rd"
      refine i_isi (.base (.str z)) (b := true) (by decide +kernel) ?_
      walk_at "rd"
      refine i_new_t (by show 2 ≤ sizeLine; decide) fun t1 H1 n1 s1 e1 => ?_
      refine i_in_t (.inl (.inl e1)) rfl rfl ?_
      rw [hin]
      exact q H1 s1
    · rw [decide_eq_false (p := Str.ofString "names" = Str.ofString "thing") (by decide)]
      walk_at "rd"
      refine i_ix_t hs (atI_nat (j := 0) rfl) ?_
      walk_at "rd"
      rw [wordD, decide_eq_false (p := Str.ofString "names" = Str.ofString "has") (by decide)]
      walk_at "rd"
      have ho : Dt K H (.tuple (ns.map .str)) vt := ho
      obtain ⟨b, xs, rfl, hsb, hq⟩ := ho.tup
      have hg := treeOk_good ht
      refine i_isi (ty_sq hsb) (b := true) (by decide +kernel) ?_
      walk_at "rd"
      refine ⟨.ref b, _, rfl, ho, lim_good _ hg.g, fun H1 s1 => ?_⟩
      rw [ht]
      walk_at "rd"
      have hlen := hq.length
      rw [List.length_map] at hlen
      have h40 : ns.length ≤ 40 := by
        have := hg.g
        simp only [good, Bool.and_eq_true, decide_eq_true_eq, List.length_map] at this
        exact this.1
      refine c_tup (sqT_tt (.same s1) hsb) (szlt (by omega)) (fun D i acc H2 => Same H H2 ∧ acc = (List.replicate i true).map V.bl) ?_ ?_ ?_ ?_
      · exact fun D H2 _ s2 _ => ⟨s1.trans s2, rfl⟩
      · exact fun D i acc H2 _ h => sqT_tt (.same h.1) hsb
      · rintro D i x acc H2 hD hx hl1 hi ha ⟨s2, rfl⟩
        obtain ⟨d, hdi, hdx⟩ := hq.get hx
        rw [List.getElem?_map] at hdi
        cases hni : ns[i]? with
        | none => rw [hni] at hdi; cases hdi
        | some n =>
        rw [hni] at hdi
        cases (Option.some.inj hdi)
        have e := hdx.str
        subst e
        have hnm := hn n (List.mem_of_getElem? hni)
        walk_at "rd"
        refine ⟨rfl, ?_⟩
        walk_at "rd"
        refine ⟨n, rfl, by have := nameOk_len hnm; omega, fun H3 s3 => ?_⟩
        rw [hnm]
        refine i_ck (s3 _ _ ha) hl1 hi fun H4 b4 e4 => ⟨Same.but (s2.trans s3) (none_back s1 hD) b4, ?_⟩
        rw [List.replicate_succ', List.map_append]
        rfl
      · rintro D acc H2 hD hl1 ha ⟨s2, rfl⟩
        walk_at "rd"
        refine i_all (.inl (.inl ha)) ?_
        rw [show (List.replicate xs.length true).all id = true by rw [List.all_replicate]; simp]
        exact q H2 s2
end
end Aw

namespace Aw
open PySem PySem.Spec PyProof.Rows L2

local macro_rules | `(tactic| walk_at "rd1") => `(tactic| first
  | ((with_reducible apply i_var); exact rfl)
  | with_reducible refine i_c ?_
  | with_reducible refine i_op ?_
  | with_reducible refine i_un ?_
  | with_reducible refine i_test ?_
  | with_reducible refine i_tB ?_
  | with_reducible refine i_bl ?_
  | with_reducible refine i_and ?_
  | with_reducible refine i_or ?_
  | with_reducible refine i_not ?_
  | with_reducible refine i_andV ?_
  | with_reducible refine i_orV ?_
  | with_reducible refine i_notV ?_
  | with_reducible refine i_if ?_
  | with_reducible refine i_chain ?_
  | with_reducible refine i_nil ?_
  | with_reducible refine i_cons ?_
  | with_reducible refine i_tup ?_
  | with_reducible refine i_lst ?_
  | with_reducible refine i_cb ?_
  | with_reducible refine i_call ?_
  | with_reducible refine i_bm ?_
  | with_reducible refine i_m1 ?_
  | with_reducible refine i_m0 ?_
  | with_reducible refine i_exstr ?_
  | with_reducible refine i_sl ?_
  | with_reducible refine i_nopart ?_
  | with_reducible refine i_part ?_
  | with_reducible refine i_int ?_
  | with_reducible refine i_seq ?_
  | with_reducible refine i_next ?_
  | with_reducible refine i_asg ?_
  | with_reducible refine i_gname ?_
  | with_reducible refine i_ret ?_
  | with_reducible refine i_retN ?_
  | with_reducible refine i_drop ?_
  | with_reducible refine i_ifS ?_
  | with_reducible refine i_break ?_
  | with_reducible refine i_cont ?_
  | ((with_reducible apply i_aug); exact rfl)
  | with_reducible refine i_add_i ?_
  | with_reducible refine i_sub ?_
  | with_reducible refine i_neg ?_
  | with_reducible refine i_ipadd_i ?_
  | with_reducible refine i_ip ?_
  | with_reducible refine i_lt ?_
  | with_reducible refine i_le ?_
  | with_reducible refine i_gt ?_
  | with_reducible refine i_ge ?_
  | with_reducible refine i_lt_s ?_
  | with_reducible refine i_le_s ?_
  | with_reducible refine i_gt_s ?_
  | with_reducible refine i_ge_s ?_
  | with_reducible refine i_isN ?_
  | with_reducible refine i_notN ?_
  | with_reducible refine i_in_c ?_
  | with_reducible refine i_nin_c ?_
  | with_reducible refine i_gsub ?_
  | with_reducible refine i_gcons ?_
  | with_reducible refine i_gnil ?_
  | with_reducible refine i_iList ?_
  | with_reducible refine i_iTup ?_
  | with_reducible refine i_iStr ?_
  | with_reducible refine i_iRng1 ?_
  | with_reducible refine i_lc ?_
  | with_reducible refine i_for ?_
  | with_reducible refine i_yes ?_
  | with_reducible refine i_repl ?_
  | with_reducible refine i_meth ?_
  | with_reducible refine i_fld ?_
  | with_reducible refine i_sfld ?_
  | with_reducible refine i_din ?_
  | with_reducible refine i_dnin ?_
  | with_reducible refine i_dget ?_
  | with_reducible refine i_dput ?_
  | with_reducible refine i_joined ?_
  | with_reducible refine i_callS ?_
  | with_reducible refine i_xf ?_
  | with_reducible refine i_revL ?_
  | with_reducible refine i_items ?_
  | with_reducible refine i_stepL ?_
  | with_reducible refine i_make ?_
  | with_reducible refine i_fmt ?_
  | with_reducible refine i_jcons ?_
  | with_reducible refine i_jnil ?_
  | with_reducible refine i_iEnum ?_
  | with_reducible refine i_faug ?_
  | with_reducible refine i_dget2 ?_
  | with_reducible refine i_kin ?_
  | with_reducible refine i_kix ?_
  | with_reducible refine i_bm0 ?_
  | with_reducible refine i_meth ?_
  | with_reducible refine iteT ?_
  | with_reducible refine iteF ?_
  | with_reducible refine iteNT ?_
  | with_reducible refine iteNF ?_
  | ((with_reducible refine i_len_s ?_ ?_); (first | assumption | exact szl (by assumption)))
  | ((with_reducible refine i_sl_s ?_ ?_); (first | assumption | exact szl (by assumption)))
  | with_reducible refine i_int_b ?_
  | with_reducible refine i_abs ?_
  | with_reducible refine i_min2 ?_
  | with_reducible refine i_eq rfl ?_
  | with_reducible refine i_ne rfl ?_
  | with_reducible refine iteDR ?_
  | with_reducible refine iteRN ?_
  | with_reducible refine iteI1 ?_
  | with_reducible refine iteI2 ?_
  | with_reducible refine iteI3 ?_
  | with_reducible refine iteI4 ?_
  | with_reducible refine iteSN ?_
  | with_reducible refine iteNDR ?_
  | with_reducible refine iteNRN ?_
  | with_reducible refine iteNSN ?_
  | with_reducible refine iteST (by first | rfl | decide) ?_
  | with_reducible refine iteSF (by decide) ?_
  | with_reducible refine iteNST (by first | rfl | decide) ?_
  | with_reducible refine iteNSF (by decide) ?_)
local macro_rules | `(tactic| walk_at "rd") => `(tactic| repeat walk_at "rd1")

abbrev s_Machine_fill : Stmt := inClass (topS 43) 4
theorem sc_Machine_fill : FnScope ["self", "box", "tree"] ["self", "box", "tree"] (defScope s_Machine_fill) := ⟨rfl, rfl, rfl, by decide +kernel, rfl, by decide +kernel, by decide +kernel⟩
abbrev s_Machine_wait_at : Stmt := inClass (topS 43) 3
theorem sc_Machine_wait_at : FnScope ["self", "word", "held"] ["self", "word", "held"] (defScope s_Machine_wait_at) := ⟨rfl, rfl, rfl, by decide +kernel, rfl, by decide +kernel, by decide +kernel⟩
section
variable {P : Program} {w : World} {K : PySem.W.Frag} {mg : Str → Option Value} {base : Heap}
structure MCls (K : PySem.W.Frag) (C : Addr) : Prop where
  cl : Cls K C
  n_rows : NoAttr K C "rows"
  n_rule : NoAttr K C "rule"
  n_own : NoAttr K C "own"
  n_boxes : NoAttr K C "boxes"
  n_asks : NoAttr K C "asks"
  n_at : NoAttr K C "at"
  n_done : NoAttr K C "done"
  n_state : NoAttr K C "state"
def mfs (tr vr : V) (own : Str) (ba la : Addr) (a d : Nat) (vs : V) : List (Str × V) := [("rows", tr), ("rule", vr), ("own", .str own), ("boxes", .ref ba), ("asks", .ref la), ("at", .int (a : Nat)), ("done", .int (d : Nat)), ("state", vs)]
theorem put_at {tr vr vs : V} {own : Str} {ba la : Addr} {a d n : Nat} : putF "at" (.int (n : Nat)) (mfs tr vr own ba la a d vs) = mfs tr vr own ba la n d vs := rfl
theorem put_done {tr vr vs : V} {own : Str} {ba la : Addr} {a d n : Nat} : putF "done" (.int (n : Nat)) (mfs tr vr own ba la a d vs) = mfs tr vr own ba la a n vs := rfl
theorem put_state {tr vr vs u : V} {own : Str} {ba la : Addr} {a d : Nat} : putF "state" u (mfs tr vr own ba la a d vs) = mfs tr vr own ba la a d u := rfl
/-- a machine stands at m, its boxes at ba, its asks at la -/
def MAt (K : PySem.W.Frag) (C : Addr) (H : Hp) (m ba la : Addr) (M : Mac) : Prop := ∃ (dx : Addr) (tr vr vs : V) (bv xs : List V), H m = some (.ins C dx (mfs tr vr M.own ba la M.at' M.done vs)) ∧ Dt K H (.tuple ((lnsOf M.rule).map fun l => Row.py l.row)) tr ∧ Dt K H M.rule vr ∧
  H ba = some (.dK (boxK bv)) ∧ Dts K H M.boxes bv ∧ H la = some (.lst xs) ∧ Dts K H (M.asks.map Asked.py) xs ∧ Dt K H M.st.py vs
abbrev MS (m ba la : Addr) : List Addr := [m, ba, la]
theorem frm {C m ba la dx : Addr} {fs gs : List (Str × V)} {H H' : Hp} (e : H m = some (.ins C dx fs)) (b : Bt m H H') : Fr (MS m ba la) H H' := .bt b (by simp)
theorem mfs_len {tr vr vs : V} {own : Str} {ba la : Addr} {a d : Nat} : (mfs tr vr own ba la a d vs).length < 1000 := by show 8 < 1000; decide
/-! ### fill -/
def spFill (K : PySem.W.Frag) (C : Addr) : Sp := fun vs H Q _ => ∃ (m ba la : Addr) (M : Mac) (b : Nat) (v : V) (o : Option PyData), vs = [.ref m, .str (bx b), v] ∧ b < 8 ∧ MAt K C H m ba la M ∧ M.boxes.length = 8 ∧ OD K H o v ∧ (∀ d, o = some d → lim d = true ∧ isT d = true) ∧
  ∀ H', Fr (MS m ba la) H H' → MAt K C H' m ba la (M.fill b o) → Q .non H'
theorem ok_fill {C : Addr} (D : DfM K C "fill" "Machine.fill" s_Machine_fill ["self", "box", "tree"]) (T : MCls K C) (C_is_tree : Cal P w K mg base CX0 "is_tree" ["value"] 15 (spIsTree K)) : CalM P w K mg base CX0 C "fill" ["self", "box", "tree"] 16 (spFill K C) := by
  refine D.cal fun f fd F => F.ok sc_Machine_fill (fun vs H Q E h => ?_) (fun cdv A outer s H vs Q E hr h => ?_)
  · obtain ⟨_, _, _, _, _, _, _, rfl, _⟩ := h
    rfl
  · obtain ⟨m, ba, la, M, b, v, o, rfl, hb, ⟨dx, tr, vr, vs, bv, xs, e, htr, hvr, eb, hbv, ea, hxs, hst⟩, hl, ho, hlim, q⟩ := h
    refine ⟨_, (pss_cons (ps_fldaugU K (pv 0) pe_int in_add)
      (pss_one (ps_if (pt_cmpR op_isNo (pv 2) pe_non (nomark _)) (pss_one (ps_fldU K (pv 0) (pe_tup (pa_cons pe_str (pa_cons pe_str pa_nil))) rfl)) (pss_one (ps_if (pt_not (pt_val (pe_cal C_is_tree hr (by rfl) (pa_cons (pv 2) pa_nil)))) (pss_one (ps_fldU K (pv 0) (pe_tup (pa_cons pe_str (pa_cons pe_str pa_nil))) rfl)) (pss_cons (ps_dput (hu_of hr) (pe_fldU K (pv 0) rfl) (pv 1) (pv 2) rfl)
      (pss_one (ps_fldaugU K (pv 0) pe_int in_add)))))))), ?_⟩
    walk_at "rd"
    refine i_fak e T.cl T.n_done rfl mfs_len fun H1 b1 e1 => ?_
    rw [show ((M.done : Int) + 1) = ((M.done + 1 : Nat) : Int) from rfl, put_done] at e1
    have st1 : Stay H H1 := .butI b1 e
    have eb1 := b1.ne e eb (fun z => nomatch z)
    have ea1 := b1.ne e ea (fun z => nomatch z)
    have f1 : Fr (MS m ba la) H H1 := .bt b1 (by simp)
    walk_at "rd"
    cases o with
    | none =>
      have ho : v = .non := ho
      subst ho
      walk_at "rd"
      refine i_new_t (by show 2 ≤ sizeLine; decide) fun t1 H2 n2 s2 e2 => ?_
      walk_at "rd"
      have e12 := s2 _ _ e1
      refine i_sk e12 T.cl T.n_state mfs_len fun H3 b3 e3 => ?_
      rw [put_state] at e3
      have st3 : Stay H1 H3 := (Stay.same s2).trans (.butI b3 e12)
      have st := st1.trans st3
      refine q H3 ((f1.trans (.same s2)).trans (.bt b3 (by simp))) ?_
      exact ⟨dx, tr, vr, _, bv, xs, e3, htr.mono st, hvr.mono st, b3.ne e12 (s2 _ _ eb1) (fun z => nomatch z), hbv.mono st, b3.ne e12 (s2 _ _ ea1) (fun z => nomatch z), hxs.mono st,
        (dt_tup (.inl (.inl e2)) (dts_cons dt_str (dts_cons dt_str dts_nil)) : Dt K H2 (.tuple [.str "fault", .str "kind"]) _).mono (.butI b3 e12)⟩
    | some d =>
      have ho : Dt K H d v := ho
      obtain ⟨hld, hT⟩ := hlim d rfl
      refine iteDV (isT_ne ho hT) ?_
      walk_at "rd"
      refine ⟨v, d, rfl, ho.mono st1, hld, fun H2 s2 => ?_⟩
      have e12 := s2 _ _ e1
      have eb2 := s2 _ _ eb1
      have st2 := st1.trans (.same s2)
      have q : ∀ H', Fr (MS m ba la) H H' → MAt K C H' m ba la (if treeOk d = true then { M with done := M.done + 1, boxes := M.boxes.set b d, at' := M.at' + 1 } else { M with done := M.done + 1, st := .fault "big" }) → Q .non H' := q
      cases ht : treeOk d with
      | false =>
        rw [ht] at q
        rw [if_neg (by decide)] at q
        walk_at "rd"
        refine i_new_t (by show 2 ≤ sizeLine; decide) fun t1 H3 n3 s3 e3 => ?_
        walk_at "rd"
        have e13 := s3 _ _ e12
        refine i_sk e13 T.cl T.n_state mfs_len fun H4 b4 e4 => ?_
        rw [put_state] at e4
        have st := (st2.trans (.same s3)).trans (.butI b4 e13)
        refine q H4 ((f1.trans (.same (s2.trans s3))).trans (.bt b4 (by simp))) ?_
        exact ⟨dx, tr, vr, _, bv, xs, e4, htr.mono st, hvr.mono st, b4.ne e13 (s3 _ _ eb2) (fun z => nomatch z), hbv.mono st, b4.ne e13 (s3 _ _ (s2 _ _ ea1)) (fun z => nomatch z), hxs.mono st,
          (dt_tup (.inl (.inl e3)) (dts_cons dt_str (dts_cons dt_str dts_nil)) : Dt K H3 (.tuple [.str "fault", .str "big"]) _).mono (.butI b4 e13)⟩
      | true =>
        rw [ht] at q
        rw [if_pos rfl] at q
        walk_at "rd"
        refine i_fk e12 T.cl T.n_boxes rfl ?_
        walk_at "rd"
        have hl2 : bv.length = 8 := by rw [hbv.length]; exact hl
        refine i_dpk eb2 (szlt (by unfold boxK; rw [List.length_zipWith, hl2]; decide)) fun H3 b3 e3 => ?_
        rw [box_put hl2 hb] at e3
        walk_at "rd"
        have e13 := b3.ne eb2 e12 (fun z => nomatch z)
        refine i_fak e13 T.cl T.n_at rfl mfs_len fun H4 b4 e4 => ?_
        rw [show ((M.at' : Int) + 1) = ((M.at' + 1 : Nat) : Int) from rfl, put_at] at e4
        have st4 : Stay H2 H4 := (Stay.butD b3 eb2).trans (.butI b4 e13)
        have st := st2.trans st4
        refine q H4 (((f1.trans (.same s2)).trans (.bt b3 (by simp))).trans (.bt b4 (by simp))) ?_
        exact ⟨dx, tr, vr, _, bv.set b v, xs, e4, htr.mono st, hvr.mono st, b4.ne e13 e3 (fun z => nomatch z), (hbv.mono st).set (ho.mono st), b4.ne e13 (b3.ne eb2 (s2 _ _ ea1) (fun z => nomatch z)) (fun z => nomatch z), hxs.mono st, hst.mono st⟩
/-! ### wait_at -/
def askWord (k : Str) : Str := if k = "thing" then "ask" else k
def spWait (K : PySem.W.Frag) (C : Addr) : Sp := fun vs H Q _ => ∃ (m ba la : Addr) (M : Mac) (k : Str) (v : V) (d : PyData), vs = [.ref m, .str (askWord k), v] ∧ (k = "thing" ∨ k = "has" ∨ k = "names") ∧ MAt K C H m ba la M ∧ Dt K H d v ∧ good d = true ∧
  ∀ H', Fr (MS m ba la) H H' → MAt K C H' m ba la (M.wait k d) → Q .non H'
/-- a fault is told -/
theorem bad_end {C : Addr} {m ba la dx : Addr} {M : Mac} {tr vr vs : V} {bv xs : List V} {H H1 H2 H3 : Hp} {t : Addr} {wd : Str} (e : H m = some (.ins C dx (mfs tr vr M.own ba la M.at' M.done vs))) (htr : Dt K H (.tuple ((lnsOf M.rule).map fun l => Row.py l.row)) tr) (hvr : Dt K H M.rule vr)
    (eb : H ba = some (.dK (boxK bv))) (hbv : Dts K H M.boxes bv) (ea : H la = some (.lst xs)) (hxs : Dts K H (M.asks.map Asked.py) xs)
    (b1 : Bt m H H1) (e1 : H1 m = some (.ins C dx (mfs tr vr M.own ba la M.at' (M.done + 1) vs))) (s2 : Same H1 H2) (e2 : H2 t = some (.tup [.str "fault", .str wd])) (b3 : Bt m H2 H3) (e3 : H3 m = some (.ins C dx (mfs tr vr M.own ba la M.at' (M.done + 1) (.ref t)))) :
    Fr (MS m ba la) H H3 ∧ MAt K C H3 m ba la (M.bad wd) := by
  have e12 := s2 _ _ e1
  have st : Stay H H3 := ((Stay.butI b1 e).trans (.same s2)).trans (.butI b3 e12)
  refine ⟨((Fr.bt b1 (by simp)).trans (.same s2)).trans (.bt b3 (by simp)), dx, tr, vr, _, bv, xs, e3, htr.mono st, hvr.mono st, b3.ne e12 (s2 _ _ (b1.ne e eb (fun z => nomatch z))) (fun z => nomatch z), hbv.mono st, b3.ne e12 (s2 _ _ (b1.ne e ea (fun z => nomatch z))) (fun z => nomatch z), hxs.mono st, ?_⟩
  exact (dt_tup (.inl (.inl e2)) (dts_cons dt_str (dts_cons dt_str dts_nil)) : Dt K H2 (.tuple [.str "fault", .str wd]) _).mono (.butI b3 e12)
theorem ok_wait {C fa : Addr} (D : DfM K C "wait_at" "Machine.wait_at" s_Machine_wait_at ["self", "word", "held"]) (T : MCls K C) (B : NoB mg) (g_ASKED_BY : GV mg "ASKED_BY" (.ref fa)) (kd : KDk K w fa kask) (C_is_name : Cal P w K mg base CX0 "is_name" ["value"] 1 (spIsNameD K)) :
    CalM P w K mg base CX0 C "wait_at" ["self", "word", "held"] 2 (spWait K C) := by
  refine D.cal fun f fd F => F.ok sc_Machine_wait_at (fun vs H Q E h => ?_) (fun cdv A outer s H vs Q E hr h => ?_)
  · obtain ⟨_, _, _, _, _, _, _, rfl, _⟩ := h
    rfl
  · obtain ⟨m, ba, la, M, k, v, d, rfl, hk, ⟨dx, tr, vr, vs, bv, xs, e, htr, hvr, eb, hbv, ea, hxs, hst⟩, hd, hg, q⟩ := h
    refine ⟨_, (pss_one (ps_if (PW.pt (pw_and (pt_cmpR (op_eqU K hr.units) (pv 1) pe_str (nomark _)) (pw_and1 (pt_not (pt_val (pe_callB (call_isiU K) (by rfl) B.m_isinstance (by decide +kernel) (pa_cons (pv 2) (pa_cons (pe_ty (T := "str") (by rfl) B.m_str (by decide +kernel)) pa_nil)))))))) (pss_cons (ps_fldaugU K (pv 0) pe_int in_add)
      (pss_one (ps_fldU K (pv 0) (pe_tup (pa_cons pe_str (pa_cons pe_str pa_nil))) rfl))) (pss_one (ps_if (PW.pt (pw_and (pt_cmpR (op_neU K hr.units) (pv 1) pe_str (nomark _)) (pw_and1 (pt_not (pt_val (pe_cal C_is_name hr (by rfl) (pa_cons (pv 2) pa_nil))))))) (pss_cons (ps_fldaugU K (pv 0) pe_int in_add)
      (pss_one (ps_fldU K (pv 0) (pe_tup (pa_cons pe_str (pa_cons pe_str pa_nil))) rfl))) (pss_one (ps_fldU K (pv 0) (pe_tup (pa_cons pe_str (pa_cons (pe_tup (pa_cons (pe_kix (pe_gv (by rfl) g_ASKED_BY) (pv 1) (fun _ _ => rfl)) (pa_cons (pv 2) pa_nil))) pa_nil))) rfl)))))), ?_⟩
    unfold Mac.wait at q
    rcases hk with rfl | rfl | rfl
    · show _
      rw [show askWord "thing" = "ask" from rfl]
      walk_at "rd"
      refine ⟨v, d, rfl, hd, lim_good d hg, fun H1 s1 => ?_⟩
      cases d with
      | str z =>
        cases hn : nameOk z with
        | true =>
          rw [show nameD (.str z) = true from hn]
          walk_at "rd"
          have hv := hd.str
          subst hv
          refine i_kxk kd (v := .str "thing") rfl ?_
          walk_at "rd"
          refine i_new_t (by show 2 ≤ sizeLine; decide) fun t1 H3 n3 s3 e3 => ?_
          walk_at "rd"
          refine i_new_t (by show 2 ≤ sizeLine; decide) fun t2 H4 n4 s4 e4 => ?_
          walk_at "rd"
          have s02 := (s1).trans (s3.trans s4)
          refine i_sk (s02 _ _ e) T.cl T.n_state mfs_len fun H5 b5 e5 => ?_
          rw [put_state] at e5
          have st : Stay H H5 := (Stay.same s02).trans (.butI b5 (s02 _ _ e))
          have d2 : Dt K H4 (.tuple [.str "asks", .tuple [.str "thing", .str z]]) (.ref t2) := dt_tup (.inl (.inl e4)) (dts_cons dt_str (dts_cons (dt_tup (.inl (.inl (s4 _ _ e3))) (dts_cons dt_str (dts_cons dt_str dts_nil))) dts_nil))
          have q : ∀ H', Fr (MS m ba la) H H' → MAt K C H' m ba la (if (Str.ofString "thing" = Str.ofString "names") ∨ nameOk z = true then { M with st := .asks "thing" z } else M.bad "name") → Q .non H' := q
          rw [if_pos (.inr hn)] at q
          exact q H5 ((Fr.same s02).trans (.bt b5 (by simp))) ⟨dx, tr, vr, _, bv, xs, e5, htr.mono st, hvr.mono st, b5.ne (s02 _ _ e) (s02 _ _ eb) (fun z => nomatch z), hbv.mono st, b5.ne (s02 _ _ e) (s02 _ _ ea) (fun z => nomatch z), hxs.mono st, d2.mono (.butI b5 (s02 _ _ e))⟩
        | false =>
          have q : ∀ H', Fr (MS m ba la) H H' → MAt K C H' m ba la (if (Str.ofString "thing" = Str.ofString "names") ∨ nameOk z = true then { M with st := .asks "thing" z } else M.bad "name") → Q .non H' := q
          rw [if_neg (fun h => h.elim (fun h => absurd h (by decide)) fun h => by rw [hn] at h; cases h)] at q
          rw [show nameD (.str z) = false from hn]
          walk_at "rd"
          refine i_fak (s1 _ _ e) T.cl T.n_done rfl mfs_len fun H2 b2 e2 => ?_
          rw [show ((M.done : Int) + 1) = ((M.done + 1 : Nat) : Int) from rfl, put_done] at e2
          walk_at "rd"
          refine i_new_t (by show 2 ≤ sizeLine; decide) fun t1 H3 n3 s3 e3 => ?_
          walk_at "rd"
          refine i_sk (s3 _ _ e2) T.cl T.n_state mfs_len fun H4 b4 e4 => ?_
          rw [put_state] at e4
          obtain ⟨f1, k1⟩ := bad_end (s1 _ _ e) (htr.mono (.same s1)) (hvr.mono (.same s1)) (s1 _ _ eb) (hbv.mono (.same s1)) (s1 _ _ ea) (hxs.mono (.same s1)) b2 e2 s3 e3 b4 e4
          exact q H4 ((Fr.same s1).trans f1) k1
      | tuple ds =>
        have q : ∀ H', Fr (MS m ba la) H H' → MAt K C H' m ba la (M.bad (if Str.ofString "thing" = Str.ofString "names" then "kind" else "name")) → Q .non H' := q
        rw [if_neg (by decide)] at q
        rw [show nameD (.tuple ds) = false from rfl]
        walk_at "rd"
        refine i_fak (s1 _ _ e) T.cl T.n_done rfl mfs_len fun H2 b2 e2 => ?_
        rw [show ((M.done : Int) + 1) = ((M.done + 1 : Nat) : Int) from rfl, put_done] at e2
        walk_at "rd"
        refine i_new_t (by show 2 ≤ sizeLine; decide) fun t1 H3 n3 s3 e3 => ?_
        walk_at "rd"
        refine i_sk (s3 _ _ e2) T.cl T.n_state mfs_len fun H4 b4 e4 => ?_
        rw [put_state] at e4
        obtain ⟨f1, k1⟩ := bad_end (s1 _ _ e) (htr.mono (.same s1)) (hvr.mono (.same s1)) (s1 _ _ eb) (hbv.mono (.same s1)) (s1 _ _ ea) (hxs.mono (.same s1)) b2 e2 s3 e3 b4 e4
        exact q H4 ((Fr.same s1).trans f1) k1
      | _ => simp [good] at hg
    · rw [show askWord "has" = "has" from rfl]
      walk_at "rd"
      refine ⟨v, d, rfl, hd, lim_good d hg, fun H1 s1 => ?_⟩
      cases d with
      | str z =>
        cases hn : nameOk z with
        | true =>
          rw [show nameD (.str z) = true from hn]
          walk_at "rd"
          have hv := hd.str
          subst hv
          refine i_kxk kd (v := .str "has") rfl ?_
          walk_at "rd"
          refine i_new_t (by show 2 ≤ sizeLine; decide) fun t1 H3 n3 s3 e3 => ?_
          walk_at "rd"
          refine i_new_t (by show 2 ≤ sizeLine; decide) fun t2 H4 n4 s4 e4 => ?_
          walk_at "rd"
          have s02 := (s1).trans (s3.trans s4)
          refine i_sk (s02 _ _ e) T.cl T.n_state mfs_len fun H5 b5 e5 => ?_
          rw [put_state] at e5
          have st : Stay H H5 := (Stay.same s02).trans (.butI b5 (s02 _ _ e))
          have d2 : Dt K H4 (.tuple [.str "asks", .tuple [.str "has", .str z]]) (.ref t2) := dt_tup (.inl (.inl e4)) (dts_cons dt_str (dts_cons (dt_tup (.inl (.inl (s4 _ _ e3))) (dts_cons dt_str (dts_cons dt_str dts_nil))) dts_nil))
          have q : ∀ H', Fr (MS m ba la) H H' → MAt K C H' m ba la (if (Str.ofString "has" = Str.ofString "names") ∨ nameOk z = true then { M with st := .asks "has" z } else M.bad "name") → Q .non H' := q
          rw [if_pos (.inr hn)] at q
          exact q H5 ((Fr.same s02).trans (.bt b5 (by simp))) ⟨dx, tr, vr, _, bv, xs, e5, htr.mono st, hvr.mono st, b5.ne (s02 _ _ e) (s02 _ _ eb) (fun z => nomatch z), hbv.mono st, b5.ne (s02 _ _ e) (s02 _ _ ea) (fun z => nomatch z), hxs.mono st, d2.mono (.butI b5 (s02 _ _ e))⟩
        | false =>
          have q : ∀ H', Fr (MS m ba la) H H' → MAt K C H' m ba la (if (Str.ofString "has" = Str.ofString "names") ∨ nameOk z = true then { M with st := .asks "has" z } else M.bad "name") → Q .non H' := q
          rw [if_neg (fun h => h.elim (fun h => absurd h (by decide)) fun h => by rw [hn] at h; cases h)] at q
          rw [show nameD (.str z) = false from hn]
          walk_at "rd"
          refine i_fak (s1 _ _ e) T.cl T.n_done rfl mfs_len fun H2 b2 e2 => ?_
          rw [show ((M.done : Int) + 1) = ((M.done + 1 : Nat) : Int) from rfl, put_done] at e2
          walk_at "rd"
          refine i_new_t (by show 2 ≤ sizeLine; decide) fun t1 H3 n3 s3 e3 => ?_
          walk_at "rd"
          refine i_sk (s3 _ _ e2) T.cl T.n_state mfs_len fun H4 b4 e4 => ?_
          rw [put_state] at e4
          obtain ⟨f1, k1⟩ := bad_end (s1 _ _ e) (htr.mono (.same s1)) (hvr.mono (.same s1)) (s1 _ _ eb) (hbv.mono (.same s1)) (s1 _ _ ea) (hxs.mono (.same s1)) b2 e2 s3 e3 b4 e4
          exact q H4 ((Fr.same s1).trans f1) k1
      | tuple ds =>
        have q : ∀ H', Fr (MS m ba la) H H' → MAt K C H' m ba la (M.bad (if Str.ofString "has" = Str.ofString "names" then "kind" else "name")) → Q .non H' := q
        rw [if_neg (by decide)] at q
        rw [show nameD (.tuple ds) = false from rfl]
        walk_at "rd"
        refine i_fak (s1 _ _ e) T.cl T.n_done rfl mfs_len fun H2 b2 e2 => ?_
        rw [show ((M.done : Int) + 1) = ((M.done + 1 : Nat) : Int) from rfl, put_done] at e2
        walk_at "rd"
        refine i_new_t (by show 2 ≤ sizeLine; decide) fun t1 H3 n3 s3 e3 => ?_
        walk_at "rd"
        refine i_sk (s3 _ _ e2) T.cl T.n_state mfs_len fun H4 b4 e4 => ?_
        rw [put_state] at e4
        obtain ⟨f1, k1⟩ := bad_end (s1 _ _ e) (htr.mono (.same s1)) (hvr.mono (.same s1)) (s1 _ _ eb) (hbv.mono (.same s1)) (s1 _ _ ea) (hxs.mono (.same s1)) b2 e2 s3 e3 b4 e4
        exact q H4 ((Fr.same s1).trans f1) k1
      | _ => simp [good] at hg
    · rw [show askWord "names" = "names" from rfl]
      walk_at "rd"
      cases d with
      | str z =>
        refine isi_str hd hg (b := true) rfl ?_
        walk_at "rd"
        have hv := hd.str
        subst hv
        refine i_kxk kd (v := .str "names") rfl ?_
        walk_at "rd"
        refine i_new_t (by show 2 ≤ sizeLine; decide) fun t1 H3 n3 s3 e3 => ?_
        walk_at "rd"
        refine i_new_t (by show 2 ≤ sizeLine; decide) fun t2 H4 n4 s4 e4 => ?_
        walk_at "rd"
        have s02 := (Same.refl H).trans (s3.trans s4)
        refine i_sk (s02 _ _ e) T.cl T.n_state mfs_len fun H5 b5 e5 => ?_
        rw [put_state] at e5
        have st : Stay H H5 := (Stay.same s02).trans (.butI b5 (s02 _ _ e))
        have d2 : Dt K H4 (.tuple [.str "asks", .tuple [.str "names", .str z]]) (.ref t2) := dt_tup (.inl (.inl e4)) (dts_cons dt_str (dts_cons (dt_tup (.inl (.inl (s4 _ _ e3))) (dts_cons dt_str (dts_cons dt_str dts_nil))) dts_nil))
        have q : ∀ H', Fr (MS m ba la) H H' → MAt K C H' m ba la (if (Str.ofString "names" = Str.ofString "names") ∨ nameOk z = true then { M with st := .asks "names" z } else M.bad "name") → Q .non H' := q
        rw [if_pos (.inl rfl)] at q
        exact q H5 ((Fr.same s02).trans (.bt b5 (by simp))) ⟨dx, tr, vr, _, bv, xs, e5, htr.mono st, hvr.mono st, b5.ne (s02 _ _ e) (s02 _ _ eb) (fun z => nomatch z), hbv.mono st, b5.ne (s02 _ _ e) (s02 _ _ ea) (fun z => nomatch z), hxs.mono st, d2.mono (.butI b5 (s02 _ _ e))⟩
      | tuple ds =>
        refine isi_str hd hg (b := false) rfl ?_
        have q : ∀ H', Fr (MS m ba la) H H' → MAt K C H' m ba la (M.bad (if Str.ofString "names" = Str.ofString "names" then "kind" else "name")) → Q .non H' := q
        rw [if_pos rfl] at q
        walk_at "rd"
        refine i_fak e T.cl T.n_done rfl mfs_len fun H2 b2 e2 => ?_
        rw [show ((M.done : Int) + 1) = ((M.done + 1 : Nat) : Int) from rfl, put_done] at e2
        walk_at "rd"
        refine i_new_t (by show 2 ≤ sizeLine; decide) fun t1 H3 n3 s3 e3 => ?_
        walk_at "rd"
        refine i_sk (s3 _ _ e2) T.cl T.n_state mfs_len fun H4 b4 e4 => ?_
        rw [put_state] at e4
        obtain ⟨f1, k1⟩ := bad_end e htr hvr eb hbv ea hxs b2 e2 s3 e3 b4 e4
        exact q H4 f1 k1
      | _ => simp [good] at hg
end
end Aw

namespace Aw
open PySem PySem.Spec PyProof.Rows L2

local macro_rules | `(tactic| walk_at "rd1") => `(tactic| first
  | ((with_reducible apply i_var); exact rfl)
  | with_reducible refine i_c ?_
  | with_reducible refine i_op ?_
  | with_reducible refine i_un ?_
  | with_reducible refine i_test ?_
  | with_reducible refine i_tB ?_
  | with_reducible refine i_bl ?_
  | with_reducible refine i_and ?_
  | with_reducible refine i_or ?_
  | with_reducible refine i_not ?_
  | with_reducible refine i_andV ?_
  | with_reducible refine i_orV ?_
  | with_reducible refine i_notV ?_
  | with_reducible refine i_if ?_
  | with_reducible refine i_chain ?_
  | with_reducible refine i_nil ?_
  | with_reducible refine i_cons ?_
  | with_reducible refine i_tup ?_
  | with_reducible refine i_lst ?_
  | with_reducible refine i_cb ?_
  | with_reducible refine i_call ?_
  | with_reducible refine i_bm ?_
  | with_reducible refine i_m1 ?_
  | with_reducible refine i_m0 ?_
  | with_reducible refine i_exstr ?_
  | with_reducible refine i_sl ?_
  | with_reducible refine i_nopart ?_
  | with_reducible refine i_part ?_
  | with_reducible refine i_int ?_
  | with_reducible refine i_seq ?_
  | with_reducible refine i_next ?_
  | with_reducible refine i_asg ?_
  | with_reducible refine i_gname ?_
  | with_reducible refine i_ret ?_
  | with_reducible refine i_retN ?_
  | with_reducible refine i_drop ?_
  | with_reducible refine i_ifS ?_
  | with_reducible refine i_break ?_
  | with_reducible refine i_cont ?_
  | ((with_reducible apply i_aug); exact rfl)
  | with_reducible refine i_add_i ?_
  | with_reducible refine i_sub ?_
  | with_reducible refine i_neg ?_
  | with_reducible refine i_ipadd_i ?_
  | with_reducible refine i_ip ?_
  | with_reducible refine i_lt ?_
  | with_reducible refine i_le ?_
  | with_reducible refine i_gt ?_
  | with_reducible refine i_ge ?_
  | with_reducible refine i_lt_s ?_
  | with_reducible refine i_le_s ?_
  | with_reducible refine i_gt_s ?_
  | with_reducible refine i_ge_s ?_
  | with_reducible refine i_isN ?_
  | with_reducible refine i_notN ?_
  | with_reducible refine i_in_c ?_
  | with_reducible refine i_nin_c ?_
  | with_reducible refine i_gsub ?_
  | with_reducible refine i_gcons ?_
  | with_reducible refine i_gnil ?_
  | with_reducible refine i_iList ?_
  | with_reducible refine i_iTup ?_
  | with_reducible refine i_iStr ?_
  | with_reducible refine i_iRng1 ?_
  | with_reducible refine i_lc ?_
  | with_reducible refine i_for ?_
  | with_reducible refine i_yes ?_
  | with_reducible refine i_repl ?_
  | with_reducible refine i_meth ?_
  | with_reducible refine i_fld ?_
  | with_reducible refine i_sfld ?_
  | with_reducible refine i_din ?_
  | with_reducible refine i_dnin ?_
  | with_reducible refine i_dget ?_
  | with_reducible refine i_dput ?_
  | with_reducible refine i_joined ?_
  | with_reducible refine i_callS ?_
  | with_reducible refine i_xf ?_
  | with_reducible refine i_revL ?_
  | with_reducible refine i_items ?_
  | with_reducible refine i_stepL ?_
  | with_reducible refine i_make ?_
  | with_reducible refine i_fmt ?_
  | with_reducible refine i_jcons ?_
  | with_reducible refine i_jnil ?_
  | with_reducible refine i_iEnum ?_
  | with_reducible refine i_faug ?_
  | with_reducible refine i_dget2 ?_
  | with_reducible refine i_kin ?_
  | with_reducible refine i_kix ?_
  | with_reducible refine i_bm0 ?_
  | with_reducible refine i_meth ?_
  | with_reducible refine iteT ?_
  | with_reducible refine iteF ?_
  | with_reducible refine iteNT ?_
  | with_reducible refine iteNF ?_
  | ((with_reducible refine i_len_s ?_ ?_); (first | assumption | exact szl (by assumption)))
  | ((with_reducible refine i_sl_s ?_ ?_); (first | assumption | exact szl (by assumption)))
  | with_reducible refine i_int_b ?_
  | with_reducible refine i_abs ?_
  | with_reducible refine i_min2 ?_
  | with_reducible refine i_eq rfl ?_
  | with_reducible refine i_ne rfl ?_
  | with_reducible refine iteDR ?_
  | with_reducible refine iteRN ?_
  | with_reducible refine iteI1 ?_
  | with_reducible refine iteI2 ?_
  | with_reducible refine iteI3 ?_
  | with_reducible refine iteI4 ?_
  | with_reducible refine iteSN ?_
  | with_reducible refine iteNDR ?_
  | with_reducible refine iteNRN ?_
  | with_reducible refine iteNSN ?_
  | with_reducible refine iteST (by first | rfl | decide) ?_
  | with_reducible refine iteSF (by decide) ?_
  | with_reducible refine iteNST (by first | rfl | decide) ?_
  | with_reducible refine iteNSF (by decide) ?_)
local macro_rules | `(tactic| walk_at "rd") => `(tactic| repeat walk_at "rd1")

abbrev s_Machine_do_line : Stmt := inClass (topS 43) 2
theorem sc_Machine_do_line : FnScope ["self", "word", "parts"] ["self"] (defScope s_Machine_do_line) := ⟨rfl, rfl, rfl, by decide +kernel, rfl, by decide +kernel, by decide +kernel⟩
abbrev s_Machine_go_on : Stmt := inClass (topS 43) 1
theorem sc_Machine_go_on : FnScope ["self"] ["self"] (defScope s_Machine_go_on) := ⟨rfl, rfl, rfl, by decide +kernel, rfl, by decide +kernel, by decide +kernel⟩
section
variable {P : Program} {w : World} {K : PySem.W.Frag} {mg : Str → Option Value} {base : Heap}
/-! ### lines by their kinds -/
theorem jumps_l {l : Ln} (h1 : isAsk l = false) (h2 : isEnd l = false) : inV (V.str l.row.1) [V.str "go", V.str "like", V.str "rowed", V.str "none"] = jumps l := by
  cases l <;> first | (exfalso; revert h1; decide) | (exfalso; revert h2; decide) | decide +kernel | rfl
def Ln.num : Ln → Nat
  | .go n | .like _ _ n | .rowed _ n | .none _ n => n
  | _ => 0
theorem jump_row {l : Ln} {m : Nat} (h : jumps l = true) (ok : l.ok m) : ∃ r, l.row.2 = r ++ [.int l.num] ∧ 1 ≤ l.num := by
  cases l with
  | go n => exact ⟨[], rfl, ok.1⟩
  | like b c n => exact ⟨[_, _], rfl, ok.2.2.1⟩
  | rowed b n => exact ⟨[_], rfl, ok.2.1⟩
  | none b n => exact ⟨[_], rfl, ok.2.1⟩
  | _ => cases h
theorem jump_step {l : Ln} (h : jumps l = true) (M : Mac) : M.step l = M.jump (goesL M.boxes l) l.num := by
  cases l <;> first | rfl | cases h
theorem make_row {l : Ln} {m : Nat} (h1 : isAsk l = false) (h2 : isEnd l = false) (h3 : jumps l = false) (ok : l.ok m) (M : Mac) : makes l = true ∧ l.tgt < 8 ∧ (∃ r, l.row.2 = .str (bx l.tgt) :: r) ∧ M.step l = M.fill l.tgt (madeL M.boxes M.own l) := by
  cases l with
  | text b t => exact ⟨rfl, ok.1, ⟨_, rfl⟩, rfl⟩
  | self b => exact ⟨rfl, ok, ⟨_, rfl⟩, rfl⟩
  | emp b => exact ⟨rfl, ok, ⟨_, rfl⟩, rfl⟩
  | copy b c => exact ⟨rfl, ok.1, ⟨_, rfl⟩, rfl⟩
  | put b c => exact ⟨rfl, ok.1, ⟨_, rfl⟩, rfl⟩
  | join b c => exact ⟨rfl, ok.1, ⟨_, rfl⟩, rfl⟩
  | first b c => exact ⟨rfl, ok.1, ⟨_, rfl⟩, rfl⟩
  | rest b c => exact ⟨rfl, ok.1, ⟨_, rfl⟩, rfl⟩
  | size b c => exact ⟨rfl, ok.1, ⟨_, rfl⟩, rfl⟩
  | cut b c d => exact ⟨rfl, ok.1, ⟨_, rfl⟩, rfl⟩
  | glue b c d => exact ⟨rfl, ok.1, ⟨_, rfl⟩, rfl⟩
  | ask b c => cases h1
  | has b c => cases h1
  | names b c => cases h1
  | say b => cases h2
  | fault => cases h2
  | _ => cases h3
def askKind : Ln → Str
  | .ask _ _ => "thing"
  | .has _ _ => "has"
  | _ => "names"
def Ln.src : Ln → Nat
  | .ask _ c | .has _ c | .names _ c => c
  | _ => 0
theorem ask_row {l : Ln} {m : Nat} (h : isAsk l = true) (ok : l.ok m) (M : Mac) : l.row.2 = [.str (bx l.tgt), .str (bx l.src)] ∧ l.src < 8 ∧ l.row.1 = askWord (askKind l) ∧ (askKind l = "thing" ∨ askKind l = "has" ∨ askKind l = "names") ∧ M.step l = M.wait (askKind l) (bxAt M.boxes l.src) := by
  cases l with
  | ask b c => exact ⟨rfl, ok.2, rfl, .inl rfl, rfl⟩
  | has b c => exact ⟨rfl, ok.2, rfl, .inr (.inl rfl), rfl⟩
  | names b c => exact ⟨rfl, ok.2, rfl, .inr (.inr rfl), rfl⟩
  | _ => cases h
theorem MAt.bx {C : Addr} {H : Hp} {m ba la : Addr} {M : Mac} (h : MAt K C H m ba la M) (ok : MacOk M) : BxAt K H ba M.boxes := by
  obtain ⟨dx, tr, vr, vs, bv, xs, e, htr, hvr, eb, hbv, ea, hxs, hst⟩ := h
  exact ⟨⟨bv, eb, hbv⟩, ok.len, ok.box⟩
theorem MAt.same {C : Addr} {H H' : Hp} {m ba la : Addr} {M : Mac} (h : MAt K C H m ba la M) (s : Same H H') : MAt K C H' m ba la M := by
  obtain ⟨dx, tr, vr, vs, bv, xs, e, htr, hvr, eb, hbv, ea, hxs, hst⟩ := h
  have st := Stay.same s
  exact ⟨dx, tr, vr, vs, bv, xs, s _ _ e, htr.mono st, hvr.mono st, s _ _ eb, hbv.mono st, s _ _ ea, hxs.mono st, hst.mono st⟩
/-- other objects may change -/
theorem MAt.fr {C : Addr} {S : List Addr} {H H' : Hp} {m ba la : Addr} {M : Mac} (h : MAt K C H m ba la M) (f : Fr S H H') (st : Stay H H') (h1 : m ∉ S) (h2 : ba ∉ S) (h3 : la ∉ S) : MAt K C H' m ba la M := by
  obtain ⟨dx, tr, vr, vs, bv, xs, e, htr, hvr, eb, hbv, ea, hxs, hst⟩ := h
  exact ⟨dx, tr, vr, vs, bv, xs, f _ _ h1 e, htr.mono st, hvr.mono st, f _ _ h2 eb, hbv.mono st, f _ _ h3 ea, hxs.mono st, hst.mono st⟩
/-- what is written of a machine is no tuple -/
theorem MAt.stay {C : Addr} {H H' : Hp} {m ba la : Addr} {M : Mac} (h : MAt K C H m ba la M) (f : Fr (MS m ba la) H H') : Stay H H' := by
  obtain ⟨dx, tr, vr, vs, bv, xs, e, htr, hvr, eb, hbv, ea, hxs, hst⟩ := h
  refine ⟨fun b ys eb2 => f _ _ (fun q => ?_) eb2, fun b o u eb2 => f _ _ (fun q => ?_) eb2⟩
  all_goals
    rcases List.mem_cons.mp q with rfl | q
    · rw [e] at eb2; cases eb2
    rcases List.mem_cons.mp q with rfl | q
    · rw [eb] at eb2; cases eb2
    rcases List.mem_cons.mp q with rfl | q
    · rw [ea] at eb2; cases eb2
    cases q
/-! ### do_line -/
def spDoLine (K : PySem.W.Frag) (C : Addr) : Sp := fun vs H Q _ => ∃ (m ba la : Addr) (M : Mac) (l : Ln), vs = [.ref m] ∧ MAt K C H m ba la M ∧ MacOk M ∧ (lnsOf M.rule)[M.at']? = some l ∧
  ∀ H', Fr (MS m ba la) H H' → MAt K C H' m ba la (M.step l) → Q .non H'
theorem ok_do_line {C fa : Addr} (D : DfM K C "do_line" "Machine.do_line" s_Machine_do_line ["self"]) (T : MCls K C) (B : NoB mg) (g_ASKED_BY : GV mg "ASKED_BY" (.ref fa)) (kd : KDk K w fa kask) (M_fill : CalM P w K mg base CX0 C "fill" ["self", "box", "tree"] 16 (spFill K C)) (M_wait_at : CalM P w K mg base CX0 C "wait_at" ["self", "word", "held"] 2 (spWait K C))
    (C_made_by : Cal P w K mg base CX0 "made_by" ["word", "parts", "boxes", "own"] 2 (spMade K)) (C_goes_there : Cal P w K mg base CX0 "goes_there" ["word", "parts", "boxes"] 1 (spGoes K)) :
    CalM P w K mg base CX0 C "do_line" ["self"] 17 (spDoLine K C) := by
  refine D.cal fun f fd F => F.ok sc_Machine_do_line (fun vs H Q E h => ?_) (fun cdv A outer s H vs Q E hr h => ?_)
  · obtain ⟨_, _, _, _, _, rfl, _⟩ := h
    rfl
  · obtain ⟨m, ba, la, M, l, rfl, hm, ok, hl, q⟩ := h
    have hbx := hm.bx ok
    obtain ⟨dx, tr, vr, vs, bv, xs, e, htr, hvr, eb, hbv, ea, hxs, hst⟩ := id hm
    refine ⟨_, (pss_cons (ps_asg (pe_ix (ix_U K) (pe_fldU K (pv 0) rfl) (pe_fldU K (pv 0) rfl) (fun _ _ => rfl)) (pg_tupU (n := 2) K (by rfl) (pgs_cons (pg_name (i := 1) sc_Machine_do_line.nd rfl (.inl rfl)) (pgs_cons (pg_name (i := 2) sc_Machine_do_line.nd rfl (.inl rfl)) pgs_nil))))
      (pss_one (ps_if (pt_cmp (pc_kin (pv 1) (pe_gv (by rfl) g_ASKED_BY))) (pss_one (ps_expr (pe_mcal M_wait_at T.cl hr (pv 0) (pa_cons (pv 1) (pa_cons (pe_dget (hu_of hr) (pe_fldU K (pv 0) rfl) (pe_ix (ix_U K) (pv 2) pe_int (fun _ _ => rfl)) (fun _ _ => rfl)) pa_nil))))) (pss_one (ps_if (pt_cmpR (op_inU K) (pv 1) (pe_tup (pa_cons pe_str (pa_cons pe_str pa_nil))) (by with_unfolding_all rfl)) (pss_cons (ps_fldaugU K (pv 0) pe_int in_add)
      (pss_one (ps_fldU K (pv 0) (pe_ifExp (pt_cmpR (op_eqU K hr.units) (pv 1) pe_str (nomark _)) (pe_tup (pa_cons pe_str (pa_cons pe_str pa_nil))) (pe_tup (pa_cons pe_str (pa_cons (pe_dget (hu_of hr) (pe_fldU K (pv 0) rfl) (pe_ix (ix_U K) (pv 2) pe_int (fun _ _ => rfl)) (fun _ _ => rfl)) pa_nil)))) rfl))) (pss_one (ps_if (pt_cmpR (op_inU K) (pv 1) (pe_tup (pa_cons pe_str (pa_cons pe_str (pa_cons pe_str (pa_cons pe_str pa_nil))))) (by with_unfolding_all rfl)) (pss_cons (ps_fldaugU K (pv 0) pe_int in_add)
      (pss_one (ps_fldU K (pv 0) (pe_ifExp (pt_val (pe_cal C_goes_there hr (by rfl) (pa_cons (pv 1) (pa_cons (pv 2) (pa_cons (pe_fldU K (pv 0) rfl) pa_nil))))) (pe_op op_subU (pe_ix (ix_U K) (pv 2) (pe_un un_neg pe_int) (fun _ _ => rfl)) pe_int) (pe_op (op_addU K) (pe_fldU K (pv 0) rfl) pe_int)) rfl))) (pss_one (ps_expr (pe_mcal M_fill T.cl hr (pv 0) (pa_cons (pe_ix (ix_U K) (pv 2) pe_int (fun _ _ => rfl)) (pa_cons (pe_cal C_made_by hr (by rfl) (pa_cons (pv 1) (pa_cons (pv 2) (pa_cons (pe_fldU K (pv 0) rfl) (pa_cons (pe_fldU K (pv 0) rfl) pa_nil))))) pa_nil)))))))))))), ?_⟩
    obtain ⟨ta, txs, rfl, hts, htq⟩ := htr.tup
    have hl' : ((lnsOf M.rule).map fun l => Row.py l.row)[M.at']? = some (Row.py l.row) := by rw [List.getElem?_map, hl]; rfl
    obtain ⟨rv, erv, drv⟩ := htq.at' hl'
    obtain ⟨rp, w1, w2, rfl, hrs, hw1, hw2⟩ := Dt.pair (show Dt K H (.tuple [.str l.row.1, .tuple l.row.2]) rv from drv)
    have ew := hw1.str
    subst ew
    have hlok := (lnsOf_ok ok.rule).2.2.2 l (List.mem_of_getElem? hl)
    walk_at "rd"
    refine i_fk e T.cl T.n_rows rfl ?_
    walk_at "rd"
    refine i_fk e T.cl T.n_at rfl ?_
    refine i_ix_t hts (atI_nat erv) ?_
    walk_at "rd"
    refine i_gtup hrs rfl ?_
    walk_at "rd"
    refine i_kik kd ?_
    rw [kask_l]
    cases c1 : isAsk l with
    | true =>
      obtain ⟨r1, r2, r3, r4, r5⟩ := ask_row c1 hlok M
      rw [r1] at hw2
      obtain ⟨pa, y1, y2, rfl, hps, hy1, hy2⟩ := hw2.pair
      have e2 := hy2.str
      subst e2
      walk_at "rd"
      refine i_mk e rfl ?_
      walk_at "rd"
      refine i_fk e T.cl T.n_boxes rfl ?_
      walk_at "rd"
      refine i_ix_t hps (atI_nat (j := 1) rfl) ?_
      refine i_bx hbx r2 fun v2 h2 => ?_
      walk_at "rd"
      rw [r5] at q
      exact ⟨m, ba, la, M, askKind l, v2, _, by rw [r3]; rfl, r4, hm, h2, hbx.g _, q⟩
    | false =>
      walk_at "rd"
      refine i_new_t (by show 2 ≤ sizeLine; decide) fun t1 H1 n1 s1 e1 => ?_
      refine i_in_t (.inl (.inl e1)) rfl rfl ?_
      rw [end_l]
      have hbx1 := hbx.same s1
      have e11 := s1 _ _ e
      cases c2 : isEnd l with
      | true =>
        walk_at "rd"
        refine i_fak e11 T.cl T.n_done rfl mfs_len fun H2 b2 e2 => ?_
        rw [show ((M.done : Int) + 1) = ((M.done + 1 : Nat) : Int) from rfl, put_done] at e2
        have st2 : Stay H H2 := (Stay.same s1).trans (.butI b2 e11)
        walk_at "rd"
        cases l with
        | say b =>
          obtain ⟨pa, pxs, rfl, hps, hpq⟩ := hw2.tup
          obtain ⟨y1, rfl, hy1⟩ := dts1 (show Dts K H [.str (bx b)] pxs from hpq)
          have ey := hy1.str
          subst ey
          refine iteSF (show (Ln.say b).row.1 ≠ _ from (by decide : Str.ofString "say" ≠ Str.ofString "fault")) ?_
          walk_at "rd"
          refine i_fk e2 T.cl T.n_boxes rfl ?_
          walk_at "rd"
          refine i_ix_t (sqT_tt st2 hps) (atI_nat (j := 0) rfl) ?_
          have hbx2 : BxAt K H2 ba M.boxes := ⟨⟨bv, b2.ne e11 (s1 _ _ eb) (fun z => nomatch z), hbv.mono st2⟩, ok.len, ok.box⟩
          refine i_bx hbx2 hlok fun v2 h2 => ?_
          walk_at "rd"
          refine i_new_t (by show 2 ≤ sizeLine; decide) fun t3 H3 n3 s3 e3 => ?_
          walk_at "rd"
          refine i_sk (s3 _ _ e2) T.cl T.n_state mfs_len fun H4 b4 e4 => ?_
          rw [put_state] at e4
          have st := (st2.trans (.same s3)).trans (.butI b4 (s3 _ _ e2))
          have d3 : Dt K H3 (.tuple [.str "said", bxAt M.boxes b]) (.ref t3) := dt_tup (.inl (.inl e3)) (dts_cons dt_str (dts_cons (h2.mono (.same s3)) dts_nil))
          exact q H4 ((((Fr.same s1).trans (.bt b2 (by simp))).trans (.same s3)).trans (.bt b4 (by simp))) ⟨dx, _, vr, _, bv, xs, e4, htr.mono st, hvr.mono st, b4.ne (s3 _ _ e2) (s3 _ _ (b2.ne e11 (s1 _ _ eb) (fun z => nomatch z))) (fun z => nomatch z), hbv.mono st,
            b4.ne (s3 _ _ e2) (s3 _ _ (b2.ne e11 (s1 _ _ ea) (fun z => nomatch z))) (fun z => nomatch z), hxs.mono st, d3.mono (.butI b4 (s3 _ _ e2))⟩
        | fault =>
          refine iteST rfl ?_
          walk_at "rd"
          refine i_new_t (by show 2 ≤ sizeLine; decide) fun t3 H3 n3 s3 e3 => ?_
          walk_at "rd"
          refine i_sk (s3 _ _ e2) T.cl T.n_state mfs_len fun H4 b4 e4 => ?_
          rw [put_state] at e4
          obtain ⟨f1, k1⟩ := bad_end e11 (htr.mono (.same s1)) (hvr.mono (.same s1)) (s1 _ _ eb) (hbv.mono (.same s1)) (s1 _ _ ea) (hxs.mono (.same s1)) b2 e2 s3 e3 b4 e4
          exact q H4 ((Fr.same s1).trans f1) k1
        | _ => cases c2
      | false =>
        walk_at "rd"
        refine i_new_t (by show 4 ≤ sizeLine; decide) fun t2 H2 n2 s2 e2 => ?_
        refine i_in_t (.inl (.inl e2)) rfl rfl ?_
        rw [jumps_l c1 c2]
        have s12 := s1.trans s2
        have e12 := s2 _ _ e11
        cases c3 : jumps l with
        | true =>
          obtain ⟨r, er, hn⟩ := jump_row c3 hlok
          rw [jump_step c3] at q
          walk_at "rd"
          refine i_fak e12 T.cl T.n_done rfl mfs_len fun H3 b3 e3 => ?_
          rw [show ((M.done : Int) + 1) = ((M.done + 1 : Nat) : Int) from rfl, put_done] at e3
          have st3 : Stay H H3 := (Stay.same s12).trans (.butI b3 e12)
          walk_at "rd"
          refine i_fk e3 T.cl T.n_boxes rfl ?_
          walk_at "rd"
          have hbx3 : BxAt K H3 ba M.boxes := ⟨⟨bv, b3.ne e12 (s12 _ _ eb) (fun z => nomatch z), hbv.mono st3⟩, ok.len, ok.box⟩
          refine ⟨l, _, l.row.1, w2, ba, M.boxes, rfl, rfl, c3, hlok, hw2.mono st3, hbx3, ?_⟩
          have fin : ∀ (n : Nat) H4, Bt m H3 H4 → H4 m = some (.ins C dx (mfs (.ref ta) vr M.own ba la n (M.done + 1) vs)) → n = (if goesL M.boxes l = true then l.num - 1 else M.at' + 1) → Q .non H4 := fun n H4 b4 e4 hn => by
            have st := st3.trans (.butI b4 e3)
            refine q H4 (((Fr.same s12).trans (.bt b3 (by simp))).trans (.bt b4 (by simp))) ⟨dx, _, vr, vs, bv, xs, ?_, htr.mono st, hvr.mono st, b4.ne e3 (b3.ne e12 (s12 _ _ eb) (fun z => nomatch z)) (fun z => nomatch z), hbv.mono st,
              b4.ne e3 (b3.ne e12 (s12 _ _ ea) (fun z => nomatch z)) (fun z => nomatch z), hxs.mono st, hst.mono st⟩
            rw [e4, hn]
            rfl
          cases hg : goesL M.boxes l with
          | true =>
            rw [er] at hw2
            obtain ⟨pa, pxs, rfl, hps, hpq⟩ := hw2.tup
            have hlen := hpq.length
            rw [List.length_append] at hlen
            have ei : (r ++ [PyData.int l.num])[r.length]? = some (.int l.num) := by simp
            obtain ⟨yv, eyv, dyv⟩ := hpq.at' ei
            have ey := dyv.int
            subst ey
            have e5 : ∃ ys, pxs = ys ++ [V.int l.num] := by
              refine ⟨pxs.take r.length, ?_⟩
              have h5 := List.take_append_drop r.length pxs
              have h6 : pxs.drop r.length = [V.int l.num] := by
                rw [List.drop_eq_getElem?_toList_append, eyv, List.drop_eq_nil_of_le (by simp only [List.length_cons, List.length_nil] at hlen; omega)]
                rfl
              rw [h6] at h5
              exact h5.symm
            obtain ⟨ys, rfl⟩ := e5
            walk_at "rd"
            refine i_ix_t (sqT_tt st3 hps) atI_last ?_
            walk_at "rd"
            refine i_sk e3 T.cl T.n_at mfs_len fun H4 b4 e4 => ?_
            rw [show ((l.num : Int) - 1) = ((l.num - 1 : Nat) : Int) by omega, put_at] at e4
            exact fin _ H4 b4 e4 (by rw [hg]; rfl)
          | false =>
            walk_at "rd"
            refine i_fk e3 T.cl T.n_at rfl ?_
            walk_at "rd"
            refine i_sk e3 T.cl T.n_at mfs_len fun H4 b4 e4 => ?_
            rw [show ((M.at' : Int) + 1) = ((M.at' + 1 : Nat) : Int) from rfl, put_at] at e4
            exact fin _ H4 b4 e4 (by rw [hg]; rfl)
        | false =>
          obtain ⟨k1, k2, ⟨r, er⟩, k4⟩ := make_row c1 c2 c3 hlok M
          rw [k4] at q
          obtain ⟨pa, pxs, rfl, hps, hpq⟩ := (er ▸ hw2).tup
          obtain ⟨y1, pr, rfl, hy1, _⟩ := hpq.cons
          have ey := hy1.str
          subst ey
          walk_at "rd"
          refine i_mk e12 rfl ?_
          walk_at "rd"
          refine i_ix_t (sqT_tt (.same s12) hps) (atI_nat (j := 0) rfl) ?_
          walk_at "rd"
          refine i_fk e12 T.cl T.n_boxes rfl ?_
          walk_at "rd"
          refine i_fk e12 T.cl T.n_own rfl ?_
          walk_at "rd"
          refine ⟨l, _, l.row.1, _, ba, M.own, M.boxes, rfl, rfl, k1, hlok, hw2.mono (.same s12), hbx.same s12, fun H3 v s3 ho => ?_⟩
          walk_at "rd"
          exact ⟨m, ba, la, M, l.tgt, v, _, rfl, k2, hm.same (s12.trans s3), ok.len, ho, fun d hd => made_lim ok.box ok.own hlok hd, fun H4 f4 h4 => q H4 ((Fr.same (s12.trans s3)).trans f4) h4⟩
/-! ### go_on -/
def spGoOn (K : PySem.W.Frag) (C : Addr) : Sp := fun vs H Q _ => ∃ (m ba la : Addr) (M : Mac), vs = [.ref m] ∧ MAt K C H m ba la M ∧ MacOk M ∧ ∀ H', Fr (MS m ba la) H H' → MAt K C H' m ba la (M.goOn 302) → Q .non H'
def isGo : Ms → Bool
  | .go => true
  | _ => false
theorem st_non {H : Hp} {s : Ms} {v : V} (h : Dt K H s.py v) : decide (v = .non) = isGo s := by
  cases s with
  | go => rw [(show Dt K H .none v from h).non]; exact decide_eq_true rfl
  | asks k z => obtain ⟨a, _, e, _⟩ := (show Dt K H (.tuple _) v from h).tup; rw [e]; exact decide_eq_false (fun z => by cases z)
  | said d => obtain ⟨a, _, e, _⟩ := (show Dt K H (.tuple _) v from h).tup; rw [e]; exact decide_eq_false (fun z => by cases z)
  | fault w => obtain ⟨a, _, e, _⟩ := (show Dt K H (.tuple _) v from h).tup; rw [e]; exact decide_eq_false (fun z => by cases z)
theorem ok_go_on {C : Addr} (D : DfM K C "go_on" "Machine.go_on" s_Machine_go_on ["self"]) (T : MCls K C) (B : NoB mg) (g_MOST_LINES_machine : GV mg "MOST_LINES_machine" (.int 300)) (M_do_line : CalM P w K mg base CX0 C "do_line" ["self"] 17 (spDoLine K C)) :
    CalM P w K mg base CX0 C "go_on" ["self"] 18 (spGoOn K C) := by
  refine D.cal fun f fd F => F.ok sc_Machine_go_on (fun vs H Q E h => ?_) (fun cdv A outer s H vs Q E hr h => ?_)
  · obtain ⟨_, _, _, _, rfl, _⟩ := h
    rfl
  · obtain ⟨m, ba, la, M, rfl, hm, ok, q⟩ := h
    obtain ⟨R, h0⟩ : ∃ R, M.goOn 302 = R := ⟨_, rfl⟩
    rw [h0] at q
    refine ⟨_, (pss_one (ps_while PassesOwn.never (pt_cmpR op_isNo (pe_fldU K (pv 0) rfl) pe_non (nomark _)) (pss_one (ps_if (pt_cmpR (op_eqU K hr.units) (pe_fldU K (pv 0) rfl) (pe_callB (call_lenU K) (by rfl) B.m_len (by decide +kernel) (pa_cons (pe_fldU K (pv 0) rfl) pa_nil)) (nomark _)) (pss_one (ps_fldU K (pv 0) (pe_tup (pa_cons pe_str (pa_cons pe_str pa_nil))) rfl)) (pss_one (ps_if (pt_cmpR (op_eqU K hr.units) (pe_fldU K (pv 0) rfl) (pe_gv (by rfl) g_MOST_LINES_machine) (nomark _)) (pss_one (ps_fldU K (pv 0) (pe_tup (pa_cons pe_str (pa_cons pe_str pa_nil))) rfl)) (pss_one (ps_expr (pe_mcal0 M_do_line T.cl hr (pv 0)))))))))), ?_⟩
    refine i_while (fun k σ H1 => ∃ M' : Mac, σ = [some (.ref m)] ∧ MAt K C H1 m ba la M' ∧ MacOk M' ∧ M'.goOn k = R ∧ (M'.st = .go → 302 ≤ k + M'.done) ∧ Fr (MS m ba la) H H1) 302 ⟨M, rfl, hm, ok, h0, fun _ => by omega, .refl _ _⟩ ?_
    rintro k σ H1 ⟨M', rfl, hm', ok', hgo, hk, f1⟩
    obtain ⟨dx, tr, vr, vs, bv, xs, e, htr, hvr, eb, hbv, ea, hxs, hst⟩ := id hm'
    walk_at "rd"
    refine i_fk e T.cl T.n_state rfl ?_
    walk_at "rd"
    rw [st_non hst]
    cases hs : M'.st with
    | go =>
      have hk := hk hs
      have hd := ok'.done
      obtain ⟨k, rfl⟩ : ∃ j, k = j + 1 := ⟨k - 1, by omega⟩
      refine iteT ?_
      refine ⟨fun σ' H2 => ∃ M2 : Mac, σ' = [some (.ref m)] ∧ MAt K C H2 m ba la M2 ∧ MacOk M2 ∧ M2.goOn k = R ∧ (M2.st = .go → 302 ≤ k + M2.done) ∧ Fr (MS m ba la) H H2, fun σ' H2 h => ⟨k, by omega, h⟩, ?_⟩
      unfold Mac.goOn at hgo
      rw [hs] at hgo
      dsimp only at hgo
      obtain ⟨ta, txs, rfl, hts, htq⟩ := htr.tup
      have hlen := htq.length
      rw [List.length_map] at hlen
      walk_at "rd"
      refine i_fk e T.cl T.n_at rfl ?_
      walk_at "rd"
      refine i_fk e T.cl T.n_rows rfl ?_
      walk_at "rd"
      refine i_len_t hts ?_
      walk_at "rd"
      rw [decI, hlen]
      have hat := ok'.at'
      cases hl : (lnsOf M'.rule)[M'.at']? with
      | none =>
        have := List.getElem?_eq_none_iff.mp hl
        rw [decide_eq_true (by omega : (M'.at' : Int) = ((lnsOf M'.rule).length : Int))]
        rw [hl] at hgo
        walk_at "rd"
        refine i_new_t (by show 2 ≤ sizeLine; decide) fun t2 H2 n2 s2 e2 => ?_
        walk_at "rd"
        refine i_sk (s2 _ _ e) T.cl T.n_state mfs_len fun H3 b3 e3 => ?_
        rw [put_state] at e3
        have st := (Stay.same s2).trans (.butI b3 (s2 _ _ e))
        have d2 : Dt K H2 (.tuple [.str "fault", .str "silent"]) (.ref t2) := dt_tup (.inl (.inl e2)) (dts_cons dt_str (dts_cons dt_str dts_nil))
        refine ⟨{ M' with st := .fault "silent" }, rfl, ⟨dx, _, vr, _, bv, xs, e3, htr.mono st, hvr.mono st, b3.ne (s2 _ _ e) (s2 _ _ eb) (fun z => nomatch z), hbv.mono st, b3.ne (s2 _ _ e) (s2 _ _ ea) (fun z => nomatch z), hxs.mono st, d2.mono (.butI b3 (s2 _ _ e))⟩, ?_, ?_, fun h => by (cases h), (f1.trans (.same s2)).trans (.bt b3 (by simp))⟩
        · exact ⟨ok'.rule, ok'.own, ok'.len, ok'.box, ok'.at', ok'.done, ok'.asks, ok'.ask, by show _ ∈ faults; decide +kernel⟩
        · rw [← hgo]
          cases k with
          | zero => rfl
          | succ k => rfl
      | some l =>
        have hlt := (List.getElem?_eq_some_iff.mp hl).1
        rw [decide_eq_false (by omega : ¬ (M'.at' : Int) = ((lnsOf M'.rule).length : Int))]
        rw [hl] at hgo
        dsimp only at hgo
        walk_at "rd"
        refine i_fk e T.cl T.n_done rfl ?_
        walk_at "rd"
        rw [decI]
        by_cases h3 : M'.done = 300
        · rw [decide_eq_true (by omega : (M'.done : Int) = 300)]
          rw [if_pos h3] at hgo
          walk_at "rd"
          refine i_new_t (by show 2 ≤ sizeLine; decide) fun t2 H2 n2 s2 e2 => ?_
          walk_at "rd"
          refine i_sk (s2 _ _ e) T.cl T.n_state mfs_len fun H3 b3 e3 => ?_
          rw [put_state] at e3
          have st := (Stay.same s2).trans (.butI b3 (s2 _ _ e))
          have d2 : Dt K H2 (.tuple [.str "fault", .str "long"]) (.ref t2) := dt_tup (.inl (.inl e2)) (dts_cons dt_str (dts_cons dt_str dts_nil))
          refine ⟨{ M' with st := .fault "long" }, rfl, ⟨dx, _, vr, _, bv, xs, e3, htr.mono st, hvr.mono st, b3.ne (s2 _ _ e) (s2 _ _ eb) (fun z => nomatch z), hbv.mono st, b3.ne (s2 _ _ e) (s2 _ _ ea) (fun z => nomatch z), hxs.mono st, d2.mono (.butI b3 (s2 _ _ e))⟩, ?_, ?_, fun h => by (cases h), (f1.trans (.same s2)).trans (.bt b3 (by simp))⟩
          · exact ⟨ok'.rule, ok'.own, ok'.len, ok'.box, ok'.at', ok'.done, ok'.asks, ok'.ask, by show _ ∈ faults; decide +kernel⟩
          · rw [← hgo]
            cases k with
            | zero => rfl
            | succ k => rfl
        · rw [decide_eq_false (by omega : ¬ (M'.done : Int) = 300)]
          rw [if_neg h3] at hgo
          walk_at "rd"
          refine i_mk e rfl ?_
          walk_at "rd"
          exact ⟨m, ba, la, M', l, rfl, hm', ok', hl, fun H2 f2 h2 => ⟨M'.step l, rfl, h2, step_ok ok' hs h3 hl, hgo, fun h => by rw [step_done hs l h]; omega, f1.trans f2⟩⟩
    | _ =>
      refine iteF ?_
      have hgo2 : M' = R := by
        rw [← hgo]
        cases k with
        | zero => rfl
        | succ k => unfold Mac.goOn; rw [hs]
      rw [← hgo2] at q
      exact q H1 f1 hm'
end
end Aw

namespace Aw
open PySem PySem.Spec PyProof.Rows L2

local macro_rules | `(tactic| walk_at "rd1") => `(tactic| first
  | ((with_reducible apply i_var); exact rfl)
  | with_reducible refine i_c ?_
  | with_reducible refine i_op ?_
  | with_reducible refine i_un ?_
  | with_reducible refine i_test ?_
  | with_reducible refine i_tB ?_
  | with_reducible refine i_bl ?_
  | with_reducible refine i_and ?_
  | with_reducible refine i_or ?_
  | with_reducible refine i_not ?_
  | with_reducible refine i_andV ?_
  | with_reducible refine i_orV ?_
  | with_reducible refine i_notV ?_
  | with_reducible refine i_if ?_
  | with_reducible refine i_chain ?_
  | with_reducible refine i_nil ?_
  | with_reducible refine i_cons ?_
  | with_reducible refine i_tup ?_
  | with_reducible refine i_lst ?_
  | with_reducible refine i_cb ?_
  | with_reducible refine i_call ?_
  | with_reducible refine i_bm ?_
  | with_reducible refine i_m1 ?_
  | with_reducible refine i_m0 ?_
  | with_reducible refine i_exstr ?_
  | with_reducible refine i_sl ?_
  | with_reducible refine i_nopart ?_
  | with_reducible refine i_part ?_
  | with_reducible refine i_int ?_
  | with_reducible refine i_seq ?_
  | with_reducible refine i_next ?_
  | with_reducible refine i_asg ?_
  | with_reducible refine i_gname ?_
  | with_reducible refine i_ret ?_
  | with_reducible refine i_retN ?_
  | with_reducible refine i_drop ?_
  | with_reducible refine i_ifS ?_
  | with_reducible refine i_break ?_
  | with_reducible refine i_cont ?_
  | ((with_reducible apply i_aug); exact rfl)
  | with_reducible refine i_add_i ?_
  | with_reducible refine i_sub ?_
  | with_reducible refine i_neg ?_
  | with_reducible refine i_ipadd_i ?_
  | with_reducible refine i_ip ?_
  | with_reducible refine i_lt ?_
  | with_reducible refine i_le ?_
  | with_reducible refine i_gt ?_
  | with_reducible refine i_ge ?_
  | with_reducible refine i_lt_s ?_
  | with_reducible refine i_le_s ?_
  | with_reducible refine i_gt_s ?_
  | with_reducible refine i_ge_s ?_
  | with_reducible refine i_isN ?_
  | with_reducible refine i_notN ?_
  | with_reducible refine i_in_c ?_
  | with_reducible refine i_nin_c ?_
  | with_reducible refine i_gsub ?_
  | with_reducible refine i_gcons ?_
  | with_reducible refine i_gnil ?_
  | with_reducible refine i_iList ?_
  | with_reducible refine i_iTup ?_
  | with_reducible refine i_iStr ?_
  | with_reducible refine i_iRng1 ?_
  | with_reducible refine i_lc ?_
  | with_reducible refine i_for ?_
  | with_reducible refine i_yes ?_
  | with_reducible refine i_repl ?_
  | with_reducible refine i_meth ?_
  | with_reducible refine i_fld ?_
  | with_reducible refine i_sfld ?_
  | with_reducible refine i_din ?_
  | with_reducible refine i_dnin ?_
  | with_reducible refine i_dget ?_
  | with_reducible refine i_dput ?_
  | with_reducible refine i_joined ?_
  | with_reducible refine i_callS ?_
  | with_reducible refine i_xf ?_
  | with_reducible refine i_revL ?_
  | with_reducible refine i_items ?_
  | with_reducible refine i_stepL ?_
  | with_reducible refine i_make ?_
  | with_reducible refine i_fmt ?_
  | with_reducible refine i_jcons ?_
  | with_reducible refine i_jnil ?_
  | with_reducible refine i_iEnum ?_
  | with_reducible refine i_faug ?_
  | with_reducible refine i_dget2 ?_
  | with_reducible refine i_kin ?_
  | with_reducible refine i_kix ?_
  | with_reducible refine i_bm0 ?_
  | with_reducible refine i_meth ?_
  | with_reducible refine iteT ?_
  | with_reducible refine iteF ?_
  | with_reducible refine iteNT ?_
  | with_reducible refine iteNF ?_
  | ((with_reducible refine i_len_s ?_ ?_); (first | assumption | exact szl (by assumption)))
  | ((with_reducible refine i_sl_s ?_ ?_); (first | assumption | exact szl (by assumption)))
  | with_reducible refine i_int_b ?_
  | with_reducible refine i_abs ?_
  | with_reducible refine i_min2 ?_
  | with_reducible refine i_eq rfl ?_
  | with_reducible refine i_ne rfl ?_
  | with_reducible refine iteDR ?_
  | with_reducible refine iteRN ?_
  | with_reducible refine iteI1 ?_
  | with_reducible refine iteI2 ?_
  | with_reducible refine iteI3 ?_
  | with_reducible refine iteI4 ?_
  | with_reducible refine iteSN ?_
  | with_reducible refine iteNDR ?_
  | with_reducible refine iteNRN ?_
  | with_reducible refine iteNSN ?_
  | with_reducible refine iteST (by first | rfl | decide) ?_
  | with_reducible refine iteSF (by decide) ?_
  | with_reducible refine iteNST (by first | rfl | decide) ?_
  | with_reducible refine iteNSF (by decide) ?_)
local macro_rules | `(tactic| walk_at "rd") => `(tactic| repeat walk_at "rd1")

abbrev s_Machine___init__ : Stmt := inClass (topS 43) 0
theorem sc_Machine___init__ : FnScope ["self", "rule", "own", "box"] ["self", "rule", "own"] (defScope s_Machine___init__) := ⟨rfl, rfl, rfl, by decide +kernel, rfl, by decide +kernel, by decide +kernel⟩
abbrev s_Machine_now : Stmt := inClass (topS 43) 5
theorem sc_Machine_now : FnScope ["self"] ["self"] (defScope s_Machine_now) := ⟨rfl, rfl, rfl, by decide +kernel, rfl, by decide +kernel, by decide +kernel⟩
abbrev s_Machine_answer : Stmt := inClass (topS 43) 6
theorem sc_Machine_answer : FnScope ["self", "tree", "ask"] ["self", "tree"] (defScope s_Machine_answer) := ⟨rfl, rfl, rfl, by decide +kernel, rfl, by decide +kernel, by decide +kernel⟩
abbrev s_Machine_asked : Stmt := inClass (topS 43) 7
theorem sc_Machine_asked : FnScope ["self"] ["self"] (defScope s_Machine_asked) := ⟨rfl, rfl, rfl, by decide +kernel, rfl, by decide +kernel, by decide +kernel⟩
section
variable {P : Program} {w : World} {K : PySem.W.Frag} {mg : Str → Option Value} {base : Heap}
/-! ### now, asked -/
def spNow (K : PySem.W.Frag) (C : Addr) : Sp := fun vs H Q _ => ∃ (m ba la : Addr) (M : Mac), vs = [.ref m] ∧ MAt K C H m ba la M ∧ ∀ v, Dt K H M.st.py v → Q v H
theorem ok_now {C : Addr} (D : DfM K C "now" "Machine.now" s_Machine_now ["self"]) (T : MCls K C) : CalM P w K mg base CX0 C "now" ["self"] 1 (spNow K C) := by
  refine D.cal fun f fd F => F.ok sc_Machine_now (fun vs H Q E h => ?_) (fun cdv A outer s H vs Q E hr h => ?_)
  · obtain ⟨_, _, _, _, rfl, _⟩ := h
    rfl
  · obtain ⟨m, ba, la, M, rfl, ⟨dx, tr, vr, vs, bv, xs, e, htr, hvr, eb, hbv, ea, hxs, hst⟩, q⟩ := h
    refine ⟨_, (pss_one (ps_ret (pe_fldU K (pv 0) rfl))), ?_⟩
    walk_at "rd"
    refine i_fk e T.cl T.n_state rfl ?_
    exact q vs hst
def spAsked (K : PySem.W.Frag) (C : Addr) : Sp := fun vs H Q _ => ∃ (m ba la : Addr) (M : Mac), vs = [.ref m] ∧ MAt K C H m ba la M ∧ ∀ H' v, Same H H' → Dt K H' (.tuple (M.asks.map Asked.py)) v → Q v H'
theorem ok_asked {C : Addr} (D : DfM K C "asked" "Machine.asked" s_Machine_asked ["self"]) (T : MCls K C) (B : NoB mg) : CalM P w K mg base CX0 C "asked" ["self"] 1 (spAsked K C) := by
  refine D.cal fun f fd F => F.ok sc_Machine_asked (fun vs H Q E h => ?_) (fun cdv A outer s H vs Q E hr h => ?_)
  · obtain ⟨_, _, _, _, rfl, _⟩ := h
    rfl
  · obtain ⟨m, ba, la, M, rfl, ⟨dx, tr, vr, vs, bv, xs, e, htr, hvr, eb, hbv, ea, hxs, hst⟩, q⟩ := h
    refine ⟨_, (pss_one (ps_ret (pe_callTy (call_tupU K) (by rfl) B.m_tuple (by decide +kernel) (pa_cons (pe_fldU K (pv 0) rfl) pa_nil)))), ?_⟩
    walk_at "rd"
    refine i_fk e T.cl T.n_asks rfl ?_
    walk_at "rd"
    refine i_tupof_l (.inl (.inl ea)) fun t H1 n1 s1 e1 => ?_
    exact q H1 _ s1 (dt_tup (.inl (.inl e1)) (hxs.mono (.same s1)))
/-! ### answer -/
def spAnswer (K : PySem.W.Frag) (C : Addr) : Sp := fun vs H Q _ => ∃ (m ba la : Addr) (M : Mac) (k z : Str) (v : V) (o : Option PyData), vs = [.ref m, v] ∧ MAt K C H m ba la M ∧ MacOk M ∧ M.st = .asks k z ∧ OD K H o v ∧ ansOk k o ∧
  ∀ H', Fr (MS m ba la) H H' → MAt K C H' m ba la (M.answer o) → Q .non H'
theorem ansOk_lim {k : Str} {o : Option PyData} (h : ansOk k o) : ∀ d, o = some d → lim d = true ∧ isT d = true := by
  rintro d rfl
  rcases h with ⟨_, h⟩ | ⟨_, h⟩ | ⟨_, ns, h, h2, _⟩
  · exact tree_lim (h d rfl)
  · rcases h with h | h <;> rw [Option.some.inj h] <;> exact ⟨by decide +kernel, rfl⟩
  · rw [Option.some.inj h]; exact tree_lim h2
theorem ok_answer {C : Addr} (D : DfM K C "answer" "Machine.answer" s_Machine_answer ["self", "tree"]) (T : MCls K C) (B : NoB mg) (C_is_answer : Cal P w K mg base CX0 "is_answer" ["ask", "tree"] 16 (spIsAnswer K)) (M_fill : CalM P w K mg base CX0 C "fill" ["self", "box", "tree"] 16 (spFill K C)) (M_go_on : CalM P w K mg base CX0 C "go_on" ["self"] 18 (spGoOn K C)) :
    CalM P w K mg base CX0 C "answer" ["self", "tree"] 19 (spAnswer K C) := by
  refine D.cal fun f fd F => F.ok sc_Machine_answer (fun vs H Q E h => ?_) (fun cdv A outer s H vs Q E hr h => ?_)
  · obtain ⟨_, _, _, _, _, _, _, _, rfl, _⟩ := h
    rfl
  · obtain ⟨m, ba, la, M, k, z, v, o, rfl, hm, ok, hs, ho, hans, q⟩ := h
    obtain ⟨hok2, hdn, hak, hrl, hown⟩ := take_ok ok hs hans
    have hstp := ok.st
    rw [hs] at hstp
    obtain ⟨hd3, hak1, l, c, hl, hlk, htg⟩ := hstp
    obtain ⟨dx, tr, vr, vs, bv, xs, e, htr, hvr, eb, hbv, ea, hxs, hst⟩ := id hm
    refine ⟨_, (pss_cons (ps_if (pt_cmpR (op_neU K hr.units) (pe_ix (ix_U K) (pe_fldU K (pv 0) rfl) pe_int (fun _ _ => rfl)) pe_str (nomark _)) (pss_one ps_never) pss_nil)
      (pss_cons (ps_set (i := 2) sc_Machine_answer.nd rfl (.inl rfl) (pe_ix (ix_U K) (pe_fldU K (pv 0) rfl) pe_int (fun _ _ => rfl)))
      (pss_cons (ps_if (pt_not (pt_val (pe_cal C_is_answer hr (by rfl) (pa_cons (pv 2) (pa_cons (pv 1) pa_nil))))) (pss_one ps_never) pss_nil)
      (pss_cons (ps_expr (pe_bmU K PySem.F.plainAttrs_list PySem.F.slot_list_append PySem.F.type_list_append mt_append (pe_fldU K (pv 0) rfl) (pa_cons (pe_tup (pa_cons (pv 2) (pa_cons (pv 1) pa_nil))) pa_nil)))
      (pss_cons (ps_fldU K (pv 0) pe_non rfl)
      (pss_cons (ps_if (pt_cmpR op_isNo (pv 1) pe_non (nomark _)) (pss_cons (ps_fldaugU K (pv 0) pe_int in_add)
      (pss_one (ps_fldU K (pv 0) (pe_tup (pa_cons pe_str (pa_cons pe_str pa_nil))) rfl))) (pss_one (ps_expr (pe_mcal M_fill T.cl hr (pv 0) (pa_cons (pe_ix (ix_U K) (pe_ix (ix_U K) (pe_ix (ix_U K) (pe_fldU K (pv 0) rfl) (pe_fldU K (pv 0) rfl) (fun _ _ => rfl)) pe_int (fun _ _ => rfl)) pe_int (fun _ _ => rfl)) (pa_cons (pv 1) pa_nil))))))
      (pss_one (ps_expr (pe_mcal0 M_go_on T.cl hr (pv 0)))))))))), ?_⟩
    rw [hs] at hst
    obtain ⟨sa, x1, x2, rfl, hsa, hx1, hx2⟩ := Dt.pair (show Dt K H (.tuple [.str "asks", .tuple [.str k, .str z]]) vs from hst)
    have ex := hx1.str
    subst ex
    walk_at "rd"
    refine i_fk e T.cl T.n_state rfl ?_
    walk_at "rd"
    refine i_ix_t hsa (atI_nat (j := 0) rfl) ?_
    walk_at "rd"
    refine i_fk e T.cl T.n_state rfl ?_
    walk_at "rd"
    refine i_ix_t hsa (atI_nat (j := 1) rfl) ?_
    walk_at "rd"
    refine ⟨x2, v, k, .str z, o, rfl, hx2, ho, hans, fun H1 s1 => ?_⟩
    walk_at "rd"
    refine i_fk (s1 _ _ e) T.cl T.n_asks rfl ?_
    walk_at "rd"
    refine i_tyl (s1 _ _ ea) ?_
    walk_at "rd"
    refine i_new_t (by show 2 ≤ sizeLine; decide) fun t2 H2 n2 s2 e2 => ?_
    walk_at "rd"
    have s02 := s1.trans s2
    have hlen : xs.length < sizeLine := by
      have h1 := hxs.length
      rw [List.length_map] at h1
      have := ok.asks
      exact szlt (by omega)
    refine i_append (s02 _ _ ea) hlen fun H3 b3 e3 => ?_
    have e13 := b3.ne (s02 _ _ ea) (s02 _ _ e) (fun z => nomatch z)
    have st3 : Stay H H3 := (Stay.same s02).trans (.but b3 (s02 _ _ ea))
    walk_at "rd"
    refine i_sk e13 T.cl T.n_state mfs_len fun H4 b4 e4 => ?_
    rw [put_state] at e4
    have st4 : Stay H H4 := st3.trans (.butI b4 e13)
    have f4 : Fr (MS m ba la) H H4 := ((Fr.same s02).trans (.bt b3 (by simp))).trans (.bt b4 (by simp))
    have eb4 := b4.ne e13 (b3.ne (s02 _ _ ea) (s02 _ _ eb) (fun z => nomatch z)) (fun z => nomatch z)
    have ea4 := b4.ne e13 e3 (fun z => nomatch z)
    have dask : Dt K H4 (Asked.py (k, z, o)) (.ref t2) := by
      have d2 : Dt K H2 (Asked.py (k, z, o)) (.ref t2) := dt_tup (.inl (.inl e2)) (dts_cons (hx2.mono (.same s02)) (dts_cons (by
        cases o with
        | none => exact (show v = .non from ho) ▸ dt_non
        | some d => exact (show Dt K H d v from ho).mono (.same s02)) dts_nil))
      exact d2.mono ((Stay.but b3 (s02 _ _ ea)).trans (.butI b4 e13))
    have hxs4 : Dts K H4 ((M.asks ++ [(k, z, o)]).map Asked.py) (xs ++ [.ref t2]) := by
      rw [List.map_append]
      exact (hxs.mono st4).snoc dask
    walk_at "rd"
    unfold Mac.answer at q
    unfold Mac.take at q hok2
    rw [hs] at q hok2
    cases o with
    | none =>
      have hv : v = .non := ho
      subst hv
      walk_at "rd"
      refine i_fak e4 T.cl T.n_done rfl mfs_len fun H5 b5 e5 => ?_
      rw [show ((M.done : Int) + 1) = ((M.done + 1 : Nat) : Int) from rfl, put_done] at e5
      walk_at "rd"
      refine i_new_t (by show 2 ≤ sizeLine; decide) fun t6 H6 n6 s6 e6 => ?_
      walk_at "rd"
      refine i_sk (s6 _ _ e5) T.cl T.n_state mfs_len fun H7 b7 e7 => ?_
      rw [put_state] at e7
      obtain ⟨f7, k7⟩ := bad_end (M := { M with asks := M.asks ++ [(k, z, none)] }) e4 (htr.mono st4) (hvr.mono st4) eb4 (hbv.mono st4) ea4 hxs4 b5 e5 s6 e6 b7 e7
      walk_at "rd"
      refine i_mk e7 rfl ?_
      walk_at "rd"
      exact ⟨m, ba, la, _, rfl, k7, hok2, fun H8 f8 h8 => q H8 ((f4.trans f7).trans f8) h8⟩
    | some d =>
      refine iteDV (isT_ne (show Dt K H d v from ho) (ansOk_lim hans d rfl).2) ?_
      rw [hl] at q hok2
      obtain ⟨ta, txs, rfl, hts, htq⟩ := htr.tup
      have hl' : ((lnsOf M.rule).map fun l => Row.py l.row)[M.at']? = some (Row.py l.row) := by rw [List.getElem?_map, hl]; rfl
      obtain ⟨rv, erv, drv⟩ := htq.at' hl'
      obtain ⟨rp, w1, w2, rfl, hrs, hw1, hw2⟩ := Dt.pair (show Dt K H (.tuple [.str l.row.1, .tuple l.row.2]) rv from drv)
      have er : ∃ r, l.row.2 = .str (bx l.tgt) :: r := by
        rcases hlk with h | h | h <;> rw [h] <;> exact ⟨_, rfl⟩
      obtain ⟨r, er⟩ := er
      obtain ⟨pa, pxs, rfl, hps, hpq⟩ := (er ▸ hw2).tup
      obtain ⟨y1, pr, rfl, hy1, _⟩ := hpq.cons
      have ey := hy1.str
      subst ey
      walk_at "rd"
      refine i_mk e4 rfl ?_
      walk_at "rd"
      refine i_fk e4 T.cl T.n_rows rfl ?_
      walk_at "rd"
      refine i_fk e4 T.cl T.n_at rfl ?_
      refine i_ix_t (sqT_tt st4 hts) (atI_nat erv) ?_
      walk_at "rd"
      refine i_ix_t (sqT_tt st4 hrs) (atI_nat (j := 1) rfl) ?_
      walk_at "rd"
      refine i_ix_t (sqT_tt st4 hps) (atI_nat (j := 0) rfl) ?_
      walk_at "rd"
      have hm4 : MAt K C H4 m ba la { M with asks := M.asks ++ [(k, z, some d)], st := .go } := ⟨dx, _, vr, .non, bv, xs ++ [.ref t2], e4, htr.mono st4, hvr.mono st4, eb4, hbv.mono st4, ea4, hxs4, dt_non⟩
      refine ⟨m, ba, la, _, l.tgt, v, some d, rfl, htg, hm4, ok.len, (show Dt K H d v from ho).mono st4, ansOk_lim hans, fun H5 f5 h5 => ?_⟩
      obtain ⟨dx5, tr5, vr5, vs5, bv5, xs5, e5, _⟩ := id h5
      walk_at "rd"
      refine i_mk e5 rfl ?_
      walk_at "rd"
      exact ⟨m, ba, la, _, rfl, h5, hok2, fun H8 f8 h8 => q H8 ((f4.trans f5).trans f8) h8⟩
/-! ### a machine is made -/
def spMacInit (K : PySem.W.Frag) (C : Addr) : Sp := fun vs H Q _ => ∃ (m dx : Addr) (vr : V) (rule : PyData) (own : Str), vs = [.ref m, vr, .str own] ∧ H m = some (.ins C dx []) ∧ Dt K H rule vr ∧ isRule rule = true ∧ nameOk own = true ∧
  ∀ H' ba la, (∀ b o, H b = some o → b ≠ m → H' b = some o) → H ba = none → H la = none → MAt K C H' m ba la (Mac.begin rule own) → Q .non H'
def boxI (i : Nat) : List (Key × V) := (List.range i).map fun b => ((Sum.inr (bx b) : Key), V.str "")
theorem boxI_none {i : Nat} (h : i < 8) : valV (boxI i) (Sum.inr (bx i) : Key) = none := by rcases lt8 h with rfl | rfl | rfl | rfl | rfl | rfl | rfl | rfl <;> rfl
theorem boxI_succ (i : Nat) : boxI i ++ [((Sum.inr (bx i) : Key), V.str "")] = boxI (i + 1) := by unfold boxI; rw [List.range_succ, List.map_append]; rfl
theorem ok_mac_init {C : Addr} (D : DfI K mg C "Machine" "Machine.__init__" s_Machine___init__ ["self", "rule", "own"]) (T : MCls K C) (B : NoB mg) (g_BOXES_machine : GV mg "BOXES_machine" (.str "abcdefgh")) (C_rule_rows : Cal P w K mg base CX0 "rule_rows" ["tree"] 17 (spRuleRows K))
    (C_is_name : Cal P w K mg base CX0 "is_name" ["value"] 1 (spIsNameD K)) (M_go_on : CalM P w K mg base CX0 C "go_on" ["self"] 18 (spGoOn K C)) : CalI P w K mg base CX0 C "Machine" ["self", "rule", "own"] 19 (spMacInit K C) := by
  refine D.cal fun f fd F => F.ok sc_Machine___init__ (fun vs H Q E h => ?_) (fun cdv A outer s H vs Q E hr h => ?_)
  · obtain ⟨_, _, _, _, _, rfl, _⟩ := h
    rfl
  · obtain ⟨m, dx, vr, rule, own, rfl, e, hvr, hru, hown, q⟩ := h
    refine ⟨_, (pss_cons (ps_fldU K (pv 0) (pe_cal C_rule_rows hr (by rfl) (pa_cons (pv 1) pa_nil)) rfl)
      (pss_cons (ps_if (pt_not (pt_val (pe_cal C_is_name hr (by rfl) (pa_cons (pv 2) pa_nil)))) (pss_one ps_never) pss_nil)
      (pss_cons (ps_fldU K (pv 0) (pv 1) rfl)
      (pss_cons (ps_fldU K (pv 0) (pv 2) rfl)
      (pss_cons (ps_fldU K (pv 0) pe_dnewK rfl)
      (pss_cons (ps_for PassesOwn.never rfl (pi_str (pe_gv (by rfl) g_BOXES_machine)) (pg_name (i := 3) sc_Machine___init__.nd rfl (.inl rfl)) (pss_one (ps_dput (hu_of hr) (pe_fldU K (pv 0) rfl) (pv 3) pe_str rfl)))
      (pss_cons (ps_fldU K (pv 0) (pe_lst pa_nil) rfl)
      (pss_cons (ps_fldU K (pv 0) pe_int rfl)
      (pss_cons (ps_fldU K (pv 0) pe_int rfl)
      (pss_cons (ps_fldU K (pv 0) pe_non rfl)
      (pss_one (ps_expr (pe_mcal0 M_go_on T.cl hr (pv 0)))))))))))))), ?_⟩
    walk_at "rd"
    refine ⟨vr, rule, rfl, hvr, hru, fun H1 tr s1 htr => ?_⟩
    rw [← (lnsOf_ok hru).1, List.map_map] at htr
    walk_at "rd"
    refine i_sk (s1 _ _ e) T.cl T.n_rows (by decide) fun H2 b2 e2 => ?_
    have st2 : Stay H H2 := (Stay.same s1).trans (.butI b2 (s1 _ _ e))
    have htr2 := htr.mono (Stay.butI b2 (s1 _ _ e))
    walk_at "rd"
    refine ⟨.str own, .str own, rfl, dt_str, (tree_lim (name_tree hown)).1, fun H3 s3 => ?_⟩
    rw [show nameD (.str own) = true from hown]
    walk_at "rd"
    refine i_sk (s3 _ _ e2) T.cl T.n_rule (by show 1 < 1000; decide) fun H4 b4 e4 => ?_
    walk_at "rd"
    refine i_sk e4 T.cl T.n_own (by show 2 < 1000; decide) fun H5 b5 e5 => ?_
    walk_at "rd"
    refine i_dnew fun ba H6 n6 s6 e6 => ?_
    walk_at "rd"
    have e56 := s6 _ _ e5
    refine i_sk e56 T.cl T.n_boxes (by show 3 < 1000; decide) fun H7 b7 e7 => ?_
    have eb7 := b7.ne e56 e6 (fun z => nomatch z)
    have st7 : Stay H2 H7 := (Stay.same s3).trans ((Stay.butI b4 (s3 _ _ e2)).trans ((Stay.butI b5 e4).trans ((Stay.same s6).trans (.butI b7 e56))))
    -- what stood, but for m, stands
    have k7 : ∀ b o, H b = some o → b ≠ m → H7 b = some o := fun b o h n => b7 _ _ n (s6 _ _ (b5 _ _ n (b4 _ _ n (s3 _ _ (b2 _ _ n (s1 _ _ h))))))
    have nb : H ba = none := by
      cases h : H ba with
      | none => rfl
      | some o =>
        by_cases hm : ba = m
        · subst hm; rw [e5] at n6; cases n6
        · have := b5 _ _ hm (b4 _ _ hm (s3 _ _ (b2 _ _ hm (s1 _ _ h)))); rw [n6] at this; cases this
    have hne : ba ≠ m := fun h => by rw [h] at nb; rw [nb] at e; cases e
    walk_at "rd"
    refine f_str (fun i σ H8 => ∃ y, σ = [some (.ref m), some vr, some (.str own), y] ∧ (∀ b o, H b = some o → b ≠ m → H8 b = some o) ∧ Stay H7 H8 ∧ H8 m = some (.ins C dx [("rows", tr), ("rule", vr), ("own", .str own), ("boxes", .ref ba)]) ∧ H8 ba = some (.dK (boxI i))) ?_ ?_ ?_
    · exact ⟨none, rfl, k7, .refl _, e7, eb7⟩
    · rintro i c σ H8 hc ⟨y, rfl, k8, st8, e8, eb8⟩
      have hi : i < 8 := by
        have := (List.getElem?_eq_some_iff.mp hc).1
        exact this
      have hcx : (⟨#[c]⟩ : Str) = bx i := by
        have : (Str.ofString "abcdefgh").cps.toList[i]? = some (97 + i) := by rcases lt8 hi with rfl | rfl | rfl | rfl | rfl | rfl | rfl | rfl <;> rfl
        rw [this] at hc
        rw [← Option.some.inj hc]
        rfl
      rw [hcx]
      walk_at "rd"
      refine i_fk e8 T.cl T.n_boxes rfl ?_
      walk_at "rd"
      refine i_dpk eb8 (szlt (by unfold boxI; rw [List.length_map, List.length_range]; omega)) fun H9 b9 e9 => ?_
      rw [putK_new _ (boxI_none hi), boxI_succ] at e9
      exact ⟨_, rfl, fun b o h n => b9 _ _ (fun q => by rw [q, nb] at h; cases h) (k8 b o h n), st8.trans (.butD b9 eb8), b9.ne eb8 e8 (fun z => nomatch z), e9⟩
    · rintro σ H8 ⟨y, rfl, k8, st8, e8, eb8⟩
      walk_at "rd"
      refine i_new_l (Nat.zero_le _) fun la H9 n9 s9 e9 => ?_
      walk_at "rd"
      refine i_sk (s9 _ _ e8) T.cl T.n_asks (by show 4 < 1000; decide) fun H10 b10 e10 => ?_
      have nl : H la = none := by
        cases h : H la with
        | none => rfl
        | some o =>
          by_cases hm : la = m
          · subst hm; rw [e8] at n9; cases n9
          · have := k8 _ _ h hm; rw [n9] at this; cases this
      have hlm : la ≠ m := fun h => by rw [h] at nl; rw [nl] at e; cases e
      walk_at "rd"
      refine i_sk e10 T.cl T.n_at (by show 5 < 1000; decide) fun H11 b11 e11 => ?_
      walk_at "rd"
      refine i_sk e11 T.cl T.n_done (by show 6 < 1000; decide) fun H12 b12 e12 => ?_
      walk_at "rd"
      refine i_sk e12 T.cl T.n_state (by show 7 < 1000; decide) fun H13 b13 e13 => ?_
      walk_at "rd"
      have st13 : Stay H8 H13 := (Stay.same s9).trans ((Stay.butI b10 (s9 _ _ e8)).trans ((Stay.butI b11 e10).trans ((Stay.butI b12 e11).trans (.butI b13 e12))))
      have k13 : ∀ b o, b ≠ m → H9 b = some o → H13 b = some o := fun b o n h => b13 _ _ n (b12 _ _ n (b11 _ _ n (b10 _ _ n h)))
      have hm13 : MAt K C H13 m ba la (mac0 rule own) := by
        refine ⟨dx, tr, vr, .non, List.replicate 8 (.str ""), [], e13, htr2.mono (st7.trans (st8.trans st13)), hvr.mono (st2.trans (st7.trans (st8.trans st13))), ?_, ?_, k13 _ _ hlm e9, dts_nil, dt_non⟩
        · exact k13 _ _ hne (s9 _ _ eb8)
        · exact dts_cons dt_str (dts_cons dt_str (dts_cons dt_str (dts_cons dt_str (dts_cons dt_str (dts_cons dt_str (dts_cons dt_str (dts_cons dt_str dts_nil)))))))
      refine i_mk e13 rfl ?_
      walk_at "rd"
      refine ⟨m, ba, la, _, rfl, hm13, mac0_ok hru hown, fun H14 f14 h14 => ?_⟩
      refine q H14 ba la (fun b o h n => f14 _ _ (fun hq => ?_) (k13 _ _ n (s9 _ _ (k8 _ _ h n)))) nb nl h14
      rcases List.mem_cons.mp hq with hq | hq
      · exact n hq
      rcases List.mem_cons.mp hq with hq | hq
      · rw [hq, nb] at h; cases h
      rcases List.mem_cons.mp hq with hq | hq
      · rw [hq, nl] at h; cases h
      cases hq
end
end Aw

namespace Aw
open PySem PySem.Spec PyProof.Rows L2

local macro_rules | `(tactic| walk_at "rd1") => `(tactic| first
  | ((with_reducible apply i_var); exact rfl)
  | with_reducible refine i_c ?_
  | with_reducible refine i_op ?_
  | with_reducible refine i_un ?_
  | with_reducible refine i_test ?_
  | with_reducible refine i_tB ?_
  | with_reducible refine i_bl ?_
  | with_reducible refine i_and ?_
  | with_reducible refine i_or ?_
  | with_reducible refine i_not ?_
  | with_reducible refine i_andV ?_
  | with_reducible refine i_orV ?_
  | with_reducible refine i_notV ?_
  | with_reducible refine i_if ?_
  | with_reducible refine i_chain ?_
  | with_reducible refine i_nil ?_
  | with_reducible refine i_cons ?_
  | with_reducible refine i_tup ?_
  | with_reducible refine i_lst ?_
  | with_reducible refine i_cb ?_
  | with_reducible refine i_call ?_
  | with_reducible refine i_bm ?_
  | with_reducible refine i_m1 ?_
  | with_reducible refine i_m0 ?_
  | with_reducible refine i_exstr ?_
  | with_reducible refine i_sl ?_
  | with_reducible refine i_nopart ?_
  | with_reducible refine i_part ?_
  | with_reducible refine i_int ?_
  | with_reducible refine i_seq ?_
  | with_reducible refine i_next ?_
  | with_reducible refine i_asg ?_
  | with_reducible refine i_gname ?_
  | with_reducible refine i_ret ?_
  | with_reducible refine i_retN ?_
  | with_reducible refine i_drop ?_
  | with_reducible refine i_ifS ?_
  | with_reducible refine i_break ?_
  | with_reducible refine i_cont ?_
  | ((with_reducible apply i_aug); exact rfl)
  | with_reducible refine i_add_i ?_
  | with_reducible refine i_sub ?_
  | with_reducible refine i_neg ?_
  | with_reducible refine i_ipadd_i ?_
  | with_reducible refine i_ip ?_
  | with_reducible refine i_lt ?_
  | with_reducible refine i_le ?_
  | with_reducible refine i_gt ?_
  | with_reducible refine i_ge ?_
  | with_reducible refine i_lt_s ?_
  | with_reducible refine i_le_s ?_
  | with_reducible refine i_gt_s ?_
  | with_reducible refine i_ge_s ?_
  | with_reducible refine i_isN ?_
  | with_reducible refine i_notN ?_
  | with_reducible refine i_in_c ?_
  | with_reducible refine i_nin_c ?_
  | with_reducible refine i_gsub ?_
  | with_reducible refine i_gcons ?_
  | with_reducible refine i_gnil ?_
  | with_reducible refine i_iList ?_
  | with_reducible refine i_iTup ?_
  | with_reducible refine i_iStr ?_
  | with_reducible refine i_iRng1 ?_
  | with_reducible refine i_lc ?_
  | with_reducible refine i_for ?_
  | with_reducible refine i_yes ?_
  | with_reducible refine i_repl ?_
  | with_reducible refine i_meth ?_
  | with_reducible refine i_fld ?_
  | with_reducible refine i_sfld ?_
  | with_reducible refine i_din ?_
  | with_reducible refine i_dnin ?_
  | with_reducible refine i_dget ?_
  | with_reducible refine i_dput ?_
  | with_reducible refine i_joined ?_
  | with_reducible refine i_callS ?_
  | with_reducible refine i_xf ?_
  | with_reducible refine i_revL ?_
  | with_reducible refine i_items ?_
  | with_reducible refine i_stepL ?_
  | with_reducible refine i_make ?_
  | with_reducible refine i_fmt ?_
  | with_reducible refine i_jcons ?_
  | with_reducible refine i_jnil ?_
  | with_reducible refine i_iEnum ?_
  | with_reducible refine i_faug ?_
  | with_reducible refine i_dget2 ?_
  | with_reducible refine i_kin ?_
  | with_reducible refine i_kix ?_
  | with_reducible refine i_bm0 ?_
  | with_reducible refine i_meth ?_
  | with_reducible refine iteT ?_
  | with_reducible refine iteF ?_
  | with_reducible refine iteNT ?_
  | with_reducible refine iteNF ?_
  | ((with_reducible refine i_len_s ?_ ?_); (first | assumption | exact szl (by assumption)))
  | ((with_reducible refine i_sl_s ?_ ?_); (first | assumption | exact szl (by assumption)))
  | with_reducible refine i_int_b ?_
  | with_reducible refine i_abs ?_
  | with_reducible refine i_min2 ?_
  | with_reducible refine i_eq rfl ?_
  | with_reducible refine i_ne rfl ?_
  | with_reducible refine iteDR ?_
  | with_reducible refine iteRN ?_
  | with_reducible refine iteI1 ?_
  | with_reducible refine iteI2 ?_
  | with_reducible refine iteI3 ?_
  | with_reducible refine iteI4 ?_
  | with_reducible refine iteSN ?_
  | with_reducible refine iteNDR ?_
  | with_reducible refine iteNRN ?_
  | with_reducible refine iteNSN ?_
  | with_reducible refine iteST (by first | rfl | decide) ?_
  | with_reducible refine iteSF (by decide) ?_
  | with_reducible refine iteNST (by first | rfl | decide) ?_
  | with_reducible refine iteNSF (by decide) ?_)
local macro_rules | `(tactic| walk_at "rd") => `(tactic| repeat walk_at "rd1")

abbrev s_answer_by : Stmt := topS 46
theorem sc_answer_by : FnScope ["end"] ["end"] (defScope s_answer_by) := ⟨rfl, rfl, rfl, by decide +kernel, rfl, by decide +kernel, by decide +kernel⟩
abbrev s_PlainWalk_answer : Stmt := inClass (topS 47) 1
theorem sc_PlainWalk_answer : FnScope ["self", "name", "source", "run"] ["self", "name"] (defScope s_PlainWalk_answer) := ⟨rfl, rfl, rfl, by decide +kernel, rfl, by decide +kernel, by decide +kernel⟩
abbrev s_PlainWalk_asked : Stmt := inClass (topS 47) 2
theorem sc_PlainWalk_asked : FnScope ["self", "name", "found"] ["self", "name"] (defScope s_PlainWalk_asked) := ⟨rfl, rfl, rfl, by decide +kernel, rfl, by decide +kernel, by decide +kernel⟩
abbrev s_PlainWalk_gone_through : Stmt := inClass (topS 47) 3
theorem sc_PlainWalk_gone_through : FnScope ["self", "name", "source", "answered", "rule", "asks"] ["self", "name", "source"] (defScope s_PlainWalk_gone_through) := ⟨rfl, rfl, rfl, by decide +kernel, rfl, by decide +kernel, by decide +kernel⟩
abbrev s_PlainWalk_run_by : Stmt := inClass (topS 47) 4
theorem sc_PlainWalk_run_by : FnScope ["self", "name", "rule", "asks", "machine", "ask", "answered", "tree"] ["self", "name", "rule", "asks"] (defScope s_PlainWalk_run_by) := ⟨rfl, rfl, rfl, by decide +kernel, rfl, by decide +kernel, by decide +kernel⟩
section
variable {P : Program} {w : World} {K : PySem.W.Frag} {mg : Str → Option Value} {base : Heap}
/-! ### a dict of data under texts -/
def KD (K : PySem.W.Frag) (H : Hp) : List (Key × V) → List (Str × PyData) → Prop
  | [], [] => True
  | kv :: r, p :: s => kv.1 = Sum.inr p.1 ∧ Dt K H p.2 kv.2 ∧ KD K H r s
  | _, _ => False
theorem KD.mono {H H' : Hp} (t : Stay H H') : ∀ {kvs : List (Key × V)} {b : List (Str × PyData)}, KD K H kvs b → KD K H' kvs b
  | [], [], _ => trivial
  | kv :: r, p :: s, h => ⟨h.1, h.2.1.mono t, KD.mono t h.2.2⟩
  | [], _ :: _, h => h.elim
  | _ :: _, [], h => h.elim
theorem KD.len {H : Hp} : ∀ {kvs : List (Key × V)} {b : List (Str × PyData)}, KD K H kvs b → kvs.length = b.length
  | [], [], _ => rfl
  | kv :: r, p :: s, h => by rw [List.length_cons, List.length_cons, KD.len h.2.2]
  | [], _ :: _, h => h.elim
  | _ :: _, [], h => h.elim
theorem KD.keys {H : Hp} : ∀ {kvs : List (Key × V)} {b : List (Str × PyData)}, KD K H kvs b → (kvs.map fun kv => kV kv.1) = (b.map (·.1)).map V.str
  | [], [], _ => rfl
  | kv :: r, p :: s, h => by rw [List.map_cons, List.map_cons, List.map_cons, KD.keys h.2.2, h.1]; rfl
  | [], _ :: _, h => h.elim
  | _ :: _, [], h => h.elim
theorem kd_look {H : Hp} {z : Str} : ∀ {kvs : List (Key × V)} {b : List (Str × PyData)}, KD K H kvs b → (b.lookup z = none ∧ valV kvs (Sum.inr z : Key) = none) ∨ ∃ d v, b.lookup z = some d ∧ valV kvs (Sum.inr z : Key) = some v ∧ Dt K H d v
  | [], [], _ => .inl ⟨rfl, rfl⟩
  | kv :: r, p :: s, h => by
    rw [List.lookup_cons]
    by_cases c : z = p.1
    · rw [show (z == p.1) = true from beq_iff_eq.mpr c]
      exact .inr ⟨p.2, kv.2, rfl, valV_pos (by rw [h.1, c]), h.2.1⟩
    · rw [show (z == p.1) = false from beq_eq_false_iff_ne.mpr c, valV_neg (by rw [h.1]; exact fun q => c (Sum.inr.inj q).symm)]
      exact kd_look h.2.2
  | [], _ :: _, h => h.elim
  | _ :: _, [], h => h.elim
theorem KD.snoc {H : Hp} {n : Str} {d : PyData} {v : V} : ∀ {kvs : List (Key × V)} {b : List (Str × PyData)}, KD K H kvs b → Dt K H d v → KD K H (kvs ++ [(Sum.inr n, v)]) (b ++ [(n, d)])
  | [], [], _, d => ⟨rfl, d, trivial⟩
  | kv :: r, p :: t, h, d => ⟨h.1, h.2.1, KD.snoc h.2.2 d⟩
  | [], _ :: _, h, _ => h.elim
  | _ :: _, [], h, _ => h.elim
def rp (p : Str × Run) : Str × PyData := (p.1, p.2.py)
theorem lookup_rp (z : Str) : ∀ rs : Runs, (rs.map rp).lookup z = (rs.lookup z).map Run.py
  | [] => rfl
  | p :: r => by
    rw [List.map_cons, List.lookup_cons, List.lookup_cons, lookup_rp z r]
    show (match z == p.1 with | true => some p.2.py | false => _) = _
    cases z == p.1 <;> rfl
theorem keys_rp (rs : Runs) : (rs.map rp).map (·.1) = rs.map (·.1) := by rw [List.map_map]; rfl
/-! ### a walk stands -/
structure WCls (K : PySem.W.Frag) (C : Addr) : Prop where
  cl : Cls K C
  n_pr : NoAttr K C "of_project"
  n_fr : NoAttr K C "full_runs"
  n_on : NoAttr K C "open_names"
def wfs (p fr on : Addr) : List (Str × V) := [("of_project", .ref p), ("full_runs", .ref fr), ("open_names", .ref on)]
def WAt (K : PySem.W.Frag) (CP CW : Addr) (H0 H : Hp) (wa fr on p : Addr) (prs : Prs) (op : List Str) (rs : Runs) : Prop := ∃ dx kvs, IsPr K CP H0 p prs ∧ Same H0 H ∧ H0 fr = none ∧ H0 on = none ∧
  H wa = some (.ins CW dx (wfs p fr on)) ∧ H fr = some (.dK kvs) ∧ KD K H kvs (rs.map rp) ∧ H on = some (.lst (op.map V.str))
abbrev WS (fr on : Addr) : List Addr := [fr, on]
section
variable {CP CW : Addr} {H0 H H' : Hp} {wa fr on p : Addr} {prs : Prs} {op : List Str} {rs : Runs}
theorem WAt.same (h : WAt K CP CW H0 H wa fr on p prs op rs) (s : Same H H') : WAt K CP CW H0 H' wa fr on p prs op rs := by
  obtain ⟨dx, kvs, h1, h2, h3, h4, h5, h6, h7, h8⟩ := h
  exact ⟨dx, kvs, h1, h2.trans s, h3, h4, s _ _ h5, s _ _ h6, h7.mono (.same s), s _ _ h8⟩
theorem WAt.pr (h : WAt K CP CW H0 H wa fr on p prs op rs) : IsPr K CP H p prs := by
  obtain ⟨dx, kvs, h1, h2, _⟩ := h
  exact h1.same h2
theorem WAt.stay (h : WAt K CP CW H0 H wa fr on p prs op rs) (f : Fr (WS fr on) H H') : Stay H H' := by
  obtain ⟨dx, kvs, h1, h2, h3, h4, h5, h6, h7, h8⟩ := h
  refine ⟨fun b ys e => f _ _ (fun q => ?_) e, fun b o u e => f _ _ (fun q => ?_) e⟩
  all_goals
    rcases List.mem_cons.mp q with rfl | q
    · rw [h6] at e; cases e
    rcases List.mem_cons.mp q with rfl | q
    · rw [h8] at e; cases e
    cases q
/-- another's new objects are written -/
theorem WAt.fr_new {S : List Addr} {Hb : Hp} {op0 : List Str} {rs0 : Runs} (h : WAt K CP CW H0 H wa fr on p prs op rs) (hb : WAt K CP CW H0 Hb wa fr on p prs op0 rs0) (hn : ∀ a ∈ S, Hb a = none) (f : Fr S H H') (st : Stay H H') : WAt K CP CW H0 H' wa fr on p prs op rs := by
  obtain ⟨dx, kvs, h1, h2, h3, h4, h5, h6, h7, h8⟩ := h
  obtain ⟨_, _, _, b2, _, _, b5, b6, _, b8⟩ := hb
  refine ⟨dx, kvs, h1, Fr.same_of h2 (fun a ha => none_back b2 (hn a ha)) f, h3, h4, f _ _ (fun q => ?_) h5, f _ _ (fun q => ?_) h6, h7.mono st, f _ _ (fun q => ?_) h8⟩
  · rw [hn _ q] at b5; cases b5
  · rw [hn _ q] at b6; cases b6
  · rw [hn _ q] at b8; cases b8
end
theorem i_eqD {H : Hp} {Q : VK} {x y : V} {d e : PyData} (dx : Dt K H d x) (dy : Dt K H e y) (cx : SeqAt.shaped d = true) (cy : SeqAt.shaped e = true) (q : Q (.bl (PyData.eqv d e)) H) : rEqU K x y H Q := .inr ⟨d, e, dx.dp, dy.dp, cx, cy, q⟩
theorem cmp_tree {d : PyData} (h : treeOk d = true) : cmpOk d := by
  have g := treeOk_good h
  have := depth_tdeep _ g.g
  have := g.dp
  exact ⟨good_lay _ g.g, by omega⟩
theorem cmp_str {z : Str} (h : ∀ c ∈ z.cps.toList, c < 1114112) : cmpOk (.str z) := ⟨by show PyData.strOk z = true; exact strOk_lt h, by show _ ≤ 20; simp [PyData.depth]⟩
theorem cmp_name {z : Str} (h : nameOk z = true) : cmpOk (.str z) := cmp_str fun c hc => by have := nameOk_all h hc; omega
theorem faults_low : ∀ w ∈ faults ++ ([Str.ofString "rule"] : List Str), ∀ c ∈ w.cps.toList, c < 1114112 := by decide +kernel
theorem shaped_two {d e : PyData} (h : cmpOk d) (k : cmpOk e) : SeqAt.shaped (.tuple [d, e]) = true := shaped_t fun x hx => by
  rcases List.mem_cons.mp hx with rfl | hx
  · exact h
  · rw [List.mem_singleton.mp hx]; exact k
theorem cmp_lit {z : Str} (h : (z.cps.toList.all fun c => decide (c < 1114112)) = true) : cmpOk (.str z) := cmp_str fun c hc => of_decide_eq_true (List.all_eq_true.mp h c hc)
theorem end_shaped {e : End} (h : EndOk e) : SeqAt.shaped e.py = true := by
  cases e with
  | said d => exact shaped_two (cmp_lit (by decide +kernel)) (cmp_tree h)
  | fault w => exact shaped_two (cmp_lit (by decide +kernel)) (cmp_str (faults_low w h))
  | stuck z => exact shaped_two (cmp_lit (by decide +kernel)) (cmp_name h)
theorem got_shaped {g : Got} (h : GotOk g) : SeqAt.shaped g.py = true := by
  cases g with
  | going => rfl
  | lack => exact shaped_t fun x hx => by rw [List.mem_singleton.mp hx]; exact cmp_lit (by decide +kernel)
  | value d => exact shaped_two (cmp_lit (by decide +kernel)) (cmp_tree h)
  | bad e => exact end_shaped h
def isLack : Got → Bool
  | .lack => true
  | _ => false
theorem got_lack (g : Got) : PyData.eqv g.py (.tuple [.str "lack"]) = isLack g := by
  cases g with
  | going => rfl
  | lack => exact SeqAt.eqv_refl _ (by decide +kernel)
  | value d => rw [Got.py, PyData.eqv, PyData.eqvAll]; simp [PyData.eqvAll]; rfl
  | bad e => cases e <;> (rw [Got.py, End.py, PyData.eqv, PyData.eqvAll]; simp [PyData.eqvAll]; rfl)
def askPy : Option (Option PyData) → PyData
  | none => .tuple [.bool false, .none]
  | some o => .tuple [.bool true, ansPy o]
/-! ### answer_by -/
def spAnsBy (K : PySem.W.Frag) : Sp := fun vs H Q _ => ∃ (v : V) (e : End), vs = [v] ∧ Dt K H e.py v ∧ ∀ H' u, Same H H' → Dt K H' (gotBy e).py u → Q u H'
theorem ok_answer_by (D : Df K mg "answer_by" "answer_by" s_answer_by ["end"]) : Cal P w K mg base CX0 "answer_by" ["end"] 1 (spAnsBy K) := by
  refine D.cal fun f fd F => F.ok sc_answer_by (fun vs H Q E h => ?_) (fun cdv A outer s H vs Q E hr h => ?_)
  · obtain ⟨_, _, rfl, _⟩ := h
    rfl
  · obtain ⟨v, e, rfl, hd, q⟩ := h
    refine ⟨_, (pss_cons (ps_if (pt_cmpR (op_eqU K hr.units) (pe_ix (ix_U K) (pv 0) pe_int (fun _ _ => rfl)) pe_str (nomark _)) (pss_one (ps_ret (pe_tup (pa_cons pe_str (pa_cons (pe_ix (ix_U K) (pv 0) pe_int (fun _ _ => rfl)) pa_nil))))) pss_nil)
      (pss_one (ps_ret (pv 0)))), ?_⟩
    cases e with
    | said d =>
      obtain ⟨a, x, y, rfl, hs, hx, hy⟩ := Dt.pair (show Dt K H (.tuple [.str "said", d]) v from hd)
      have ex := hx.str
      subst ex
      walk_at "rd"
      refine i_ix_t hs (atI_nat (j := 0) rfl) ?_
      walk_at "rd"
      refine i_ix_t hs (atI_nat (j := 1) rfl) ?_
      walk_at "rd"
      refine i_new_t (by show 2 ≤ sizeLine; decide) fun t H1 n1 s1 e1 => ?_
      exact q H1 _ s1 (dt_tup (.inl (.inl e1)) (dts_cons dt_str (dts_cons (hy.mono (.same s1)) dts_nil)))
    | fault z =>
      obtain ⟨a, x, y, rfl, hs, hx, hy⟩ := Dt.pair (show Dt K H (.tuple [.str "fault", .str z]) v from hd)
      have ex := hx.str
      subst ex
      walk_at "rd"
      refine i_ix_t hs (atI_nat (j := 0) rfl) ?_
      walk_at "rd"
      exact q H _ (.refl H) hd
    | stuck z =>
      obtain ⟨a, x, y, rfl, hs, hx, hy⟩ := Dt.pair (show Dt K H (.tuple [.str "stuck", .str z]) v from hd)
      have ex := hx.str
      subst ex
      walk_at "rd"
      refine i_ix_t hs (atI_nat (j := 0) rfl) ?_
      walk_at "rd"
      exact q H _ (.refl H) hd
/-! ### promises of the walk -/
/-- how many names are not open -/
def freeN (prs : Prs) (op : List Str) : Nat := ((names prs).filter fun z => !decide (z ∈ op)).length
theorem freeN_open {prs : Prs} {op : List Str} {z : Str} (h : z ∈ names prs) (ho : z ∉ op) : freeN prs (op ++ [z]) + 1 ≤ freeN prs op := by
  unfold freeN
  generalize names prs = l at h
  induction l with
  | nil => cases h
  | cons x r ih =>
    have mono : (r.filter fun y => !decide (y ∈ op ++ [z])).length ≤ (r.filter fun y => !decide (y ∈ op)).length := by
      clear ih h
      induction r with
      | nil => exact Nat.le_refl _
      | cons y r ih =>
        rw [List.filter_cons, List.filter_cons]
        by_cases hy : y ∈ op
        · rw [decide_eq_true hy, decide_eq_true (List.mem_append_left _ hy)]
          exact ih
        · rw [decide_eq_false hy]
          by_cases hy2 : y ∈ op ++ [z]
          · rw [decide_eq_true hy2]
            exact Nat.le_succ_of_le ih
          · rw [decide_eq_false hy2]
            exact Nat.succ_le_succ ih
    rw [List.filter_cons, List.filter_cons]
    by_cases hx : x = z
    · subst hx
      rw [decide_eq_true (List.mem_append_right op (List.mem_singleton_self x)), decide_eq_false ho]
      exact Nat.succ_le_succ mono
    · have h := (List.mem_cons.mp h).resolve_left fun e => hx e.symm
      have ih := ih h
      by_cases hxo : x ∈ op
      · rw [decide_eq_true hxo, decide_eq_true (List.mem_append_left _ hxo)]
        exact ih
      · rw [decide_eq_false hxo, decide_eq_false (fun q => (List.mem_append.mp q).elim hxo fun q => hx (List.mem_singleton.mp q))]
        exact Nat.succ_le_succ ih
structure WOk (prs : Prs) (op : List Str) (rs : Runs) : Prop where
  pr : PrsOk prs
  hr : RunsOk rs
  inn : ∀ p ∈ rs, p.1 ∈ names prs
  sz : op.length + freeN prs op ≤ 60
theorem WOk.kept {prs : Prs} {op op' : List Str} {rs rs' : Runs} (h : WOk prs op rs) (k : Kept prs op' rs rs') : WOk prs op rs' := by
  obtain ⟨t, e, ht⟩ := k.more
  refine ⟨h.pr, k.ok, fun p hp => ?_, h.sz⟩
  rw [e] at hp
  rcases List.mem_append.mp hp with hp | hp
  · exact h.inn p hp
  · exact (ht p hp).1.nm
theorem WOk.open_ {prs : Prs} {op : List Str} {rs : Runs} {z : Str} (h : WOk prs op rs) (hz : z ∈ names prs) (ho : z ∉ op) : WOk prs (op ++ [z]) rs := by
  refine ⟨h.pr, h.hr, h.inn, ?_⟩
  have h1 := freeN_open hz ho
  have h2 := h.sz
  rw [List.length_append]
  show op.length + 1 + _ ≤ 60
  omega
theorem nodup_len : ∀ {l m : List Str}, l.Nodup → (∀ x ∈ l, x ∈ m) → l.length ≤ m.length
  | [], _, _, _ => Nat.zero_le _
  | x :: r, m, nd, h => by
    rw [List.nodup_cons] at nd
    have hx := h x (List.mem_cons_self ..)
    have h1 := nodup_len (l := r) (m := m.erase x) nd.2 fun y hy => (List.mem_erase_of_ne (fun e : y = x => nd.1 (e ▸ hy))).mpr (h y (List.mem_cons_of_mem _ hy))
    rw [List.length_erase_of_mem hx] at h1
    have : 0 < m.length := List.length_pos_of_mem hx
    rw [List.length_cons]
    omega
theorem WOk.len {prs : Prs} {op : List Str} {rs : Runs} (h : WOk prs op rs) : rs.length ≤ 60 := by
  have h1 := nodup_len h.hr.nd (m := names prs) fun x hx => by
    obtain ⟨p, hp, rfl⟩ := List.mem_map.mp hx
    exact h.inn p hp
  have h2 := h.pr.ln
  unfold names at h1
  rw [List.length_map, List.length_map] at h1
  omega
def spWAns (K : PySem.W.Frag) (CP CW : Addr) (n : Nat) : Sp := fun vs H Q _ => ∃ (Hb : Hp) (wa fr on p : Addr) (prs : Prs) (op : List Str) (rs : Runs) (z : Str), vs = [.ref wa, .str z] ∧ WAt K CP CW Hb H wa fr on p prs op rs ∧ WOk prs op rs ∧ nameOk z = true ∧ freeN prs op ≤ n ∧
  ∀ H' v, Fr (WS fr on) H H' → WAt K CP CW Hb H' wa fr on p prs op (pAns prs n op rs z).2 → Dt K H' (pAns prs n op rs z).1.py v → Q v H'
def spWAsked (K : PySem.W.Frag) (CP CW : Addr) (n : Nat) : Sp := fun vs H Q _ => ∃ (Hb : Hp) (wa fr on p : Addr) (prs : Prs) (op : List Str) (rs : Runs) (z : Str), vs = [.ref wa, .str z] ∧ WAt K CP CW Hb H wa fr on p prs op rs ∧ WOk prs op rs ∧ nameOk z = true ∧ freeN prs op ≤ n ∧
  ∀ H' v, Fr (WS fr on) H H' → WAt K CP CW Hb H' wa fr on p prs op (pAns prs n op rs z).2 → Dt K H' (askPy (pAns prs n op rs z).1.asked) v → Q v H'
def spRunBy (K : PySem.W.Frag) (CP CW : Addr) (n : Nat) : Sp := fun vs H Q _ => ∃ (Hb : Hp) (wa fr on p : Addr) (prs : Prs) (op : List Str) (rs : Runs) (name : Str) (vr va : V) (rule : PyData) (as : List Asked), vs = [.ref wa, .str name, vr, va] ∧ WAt K CP CW Hb H wa fr on p prs op rs ∧ WOk prs op rs ∧ nameOk name = true ∧ freeN prs op ≤ n ∧
  Dt K H rule vr ∧ treeOk rule = true ∧ Dt K H (.tuple (as.map Asked.py)) va ∧ as.length ≤ 1 ∧
  ∀ H' v, Fr (WS fr on) H H' → WAt K CP CW Hb H' wa fr on p prs op (runBy prs (pAns prs n op) name rule as rs).2 → Dt K H' (runBy prs (pAns prs n op) name rule as rs).1.py v → Q v H'
def spGone (K : PySem.W.Frag) (CP CW : Addr) (n : Nat) : Sp := fun vs H Q _ => ∃ (Hb : Hp) (wa fr on p : Addr) (prs : Prs) (op : List Str) (rs : Runs) (name : Str) (vs' : V) (s : Src), vs = [.ref wa, .str name, vs'] ∧ WAt K CP CW Hb H wa fr on p prs op rs ∧ WOk prs op rs ∧ nameOk name = true ∧ freeN prs op + 1 ≤ n ∧
  Dt K H s.py vs' ∧ s.ok ∧ s.k ≠ "leaf" ∧
  ∀ H' v, Fr (WS fr on) H H' → WAt K CP CW Hb H' wa fr on p prs op (goneBy prs (pAns prs (n - 1) op) name s rs).2 → Dt K H' (goneBy prs (pAns prs (n - 1) op) name s rs).1.py v → Q v H'
/-! ### asked -/
theorem ok_wasked {CP CW : Addr} (D : DfM K CW "asked" "PlainWalk.asked" s_PlainWalk_asked ["self", "name"]) (TW : WCls K CW) (n : Nat) (M_answer : CalM P w K mg base CX0 CW "answer" ["self", "name"] (4 * n + 24) (spWAns K CP CW n)) : CalM P w K mg base CX0 CW "asked" ["self", "name"] (4 * n + 25) (spWAsked K CP CW n) := by
  refine D.cal fun f fd F => F.ok sc_PlainWalk_asked (fun vs H Q E h => ?_) (fun cdv A outer s H vs Q E hr h => ?_)
  · obtain ⟨_, _, _, _, _, _, _, _, _, rfl, _⟩ := h
    rfl
  · obtain ⟨Hb, wa, fr, on, p, prs, op, rs, z, rfl, hw, ok, hz, hn, q⟩ := h
    refine ⟨_, (pss_cons (ps_set (i := 2) sc_PlainWalk_asked.nd rfl (.inl rfl) (pe_mcal M_answer TW.cl hr (pv 0) (pa_cons (pv 1) pa_nil) (by omega)))
      (pss_cons (ps_if (pt_cmpR (op_eqU K hr.units) (pv 2) (pe_tup (pa_cons pe_str pa_nil)) (nomark _)) (pss_one (ps_ret (pe_tup (pa_cons pe_bl (pa_cons pe_non pa_nil))))) pss_nil)
      (pss_cons (ps_if (PW.pt (pw_or (pt_cmpR op_isNo (pv 2) pe_non (nomark _)) (pw_or1 (pt_cmpR (op_neU K hr.units) (pe_ix (ix_U K) (pv 2) pe_int (fun _ _ => rfl)) pe_str (nomark _))))) (pss_one (ps_ret (pe_tup (pa_cons pe_bl (pa_cons pe_non pa_nil))))) pss_nil)
      (pss_one (ps_ret (pe_tup (pa_cons pe_bl (pa_cons (pe_ix (ix_U K) (pv 2) pe_int (fun _ _ => rfl)) pa_nil)))))))), ?_⟩
    obtain ⟨dx, kvs, h1, h2, h3, h4, h5, h6, h7, h8⟩ := id hw
    walk_at "rd"
    refine i_mk h5 rfl ?_
    walk_at "rd"
    refine ⟨Hb, wa, fr, on, p, prs, op, rs, z, rfl, hw, ok, hz, hn, fun H1 v f1 hw1 hv => ?_⟩
    obtain ⟨hg, hk⟩ := pAns_ok ok.pr n op rs z ok.hr hz
    generalize (pAns prs n op rs z).2 = rs' at q hw1 hk
    generalize (pAns prs n op rs z).1 = g at q hv hg
    walk_at "rd"
    refine i_new_t (by show 1 ≤ sizeLine; decide) fun t H2 n2 s2 e2 => ?_
    have f2 : Fr (WS fr on) H H2 := f1.trans (.same s2)
    have hw2 := hw1.same s2
    have dl : Dt K H2 (.tuple [.str "lack"]) (.ref t) := dt_tup (.inl (.inl e2)) (dts_cons dt_str dts_nil)
    have hv2 := hv.mono (Stay.same s2)
    refine i_eqD hv2 dl (got_shaped hg) (got_shaped (g := .lack) trivial) ?_
    rw [got_lack]
    refine i_bl ?_
    cases g with
    | lack =>
      refine iteT ?_
      walk_at "rd"
      refine i_new_t (by show 2 ≤ sizeLine; decide) fun t H3 n3 s3 e3 => ?_
      exact q H3 _ (f2.trans (.same s3)) (hw2.same s3) (dt_tup (.inl (.inl e3)) (dts_cons dt_bl (dts_cons dt_non dts_nil)))
    | going =>
      refine iteF ?_
      have ev : v = .non := hv.non
      subst ev
      walk_at "rd"
      refine i_new_t (by show 2 ≤ sizeLine; decide) fun t H3 n3 s3 e3 => ?_
      exact q H3 _ (f2.trans (.same s3)) (hw2.same s3) (dt_tup (.inl (.inl e3)) (dts_cons dt_bl (dts_cons dt_non dts_nil)))
    | value d =>
      refine iteF ?_
      obtain ⟨a, x, y, rfl, hs, hx, hy⟩ := Dt.pair (show Dt K H2 (.tuple [.str "value", d]) v from hv2)
      have ex := hx.str
      subst ex
      walk_at "rd"
      refine i_ix_t hs (atI_nat (j := 0) rfl) ?_
      walk_at "rd"
      refine i_ix_t hs (atI_nat (j := 1) rfl) ?_
      walk_at "rd"
      refine i_new_t (by show 2 ≤ sizeLine; decide) fun t H3 n3 s3 e3 => ?_
      exact q H3 _ (f2.trans (.same s3)) (hw2.same s3) (dt_tup (.inl (.inl e3)) (dts_cons dt_bl (dts_cons (hy.mono (.same s3)) dts_nil)))
    | bad e =>
      refine iteF ?_
      have hx : ∃ a x y, v = .ref a ∧ SqT K H2 a [.str x, y] ∧ x ≠ "value" := by
        cases e with
        | said d =>
          obtain ⟨a, x, y, rfl, hs, hx, hy⟩ := Dt.pair (show Dt K H2 (.tuple [.str "said", d]) v from hv2)
          rw [hx.str] at hs
          exact ⟨a, _, y, rfl, hs, by decide⟩
        | fault d =>
          obtain ⟨a, x, y, rfl, hs, hx, hy⟩ := Dt.pair (show Dt K H2 (.tuple [.str "fault", .str d]) v from hv2)
          rw [hx.str] at hs
          exact ⟨a, _, y, rfl, hs, by decide⟩
        | stuck d =>
          obtain ⟨a, x, y, rfl, hs, hx, hy⟩ := Dt.pair (show Dt K H2 (.tuple [.str "stuck", .str d]) v from hv2)
          rw [hx.str] at hs
          exact ⟨a, _, y, rfl, hs, by decide⟩
      obtain ⟨a, x, y, rfl, hs, hx⟩ := hx
      walk_at "rd"
      refine i_ix_t hs (atI_nat (j := 0) rfl) ?_
      walk_at "rd"
      rw [decS, decide_eq_false hx]
      walk_at "rd"
      refine i_new_t (by show 2 ≤ sizeLine; decide) fun t H3 n3 s3 e3 => ?_
      exact q H3 _ (f2.trans (.same s3)) (hw2.same s3) (dt_tup (.inl (.inl e3)) (dts_cons dt_bl (dts_cons dt_non dts_nil)))
/-! ### gone_through -/
theorem ok_gone {CP CW : Addr} (D : DfM K CW "gone_through" "PlainWalk.gone_through" s_PlainWalk_gone_through ["self", "name", "source"]) (TW : WCls K CW) (n : Nat) (M_asked : CalM P w K mg base CX0 CW "asked" ["self", "name"] (4 * n + 25) (spWAsked K CP CW n))
    (M_run_by : CalM P w K mg base CX0 CW "run_by" ["self", "name", "rule", "asks"] (4 * n + 26) (spRunBy K CP CW n)) : CalM P w K mg base CX0 CW "gone_through" ["self", "name", "source"] (4 * n + 27) (spGone K CP CW (n + 1)) := by
  refine D.cal fun f fd F => F.ok sc_PlainWalk_gone_through (fun vs H Q E h => ?_) (fun cdv A outer s H vs Q E hr h => ?_)
  · obtain ⟨_, _, _, _, _, _, _, _, _, _, _, rfl, _⟩ := h
    rfl
  · obtain ⟨Hb, wa, fr, on, p, prs, op, rs, name, vsr, s, rfl, hw, ok, hz, hn, hs, hsok, hl, q⟩ := h
    refine ⟨_, (pss_cons (ps_if (pt_cmpR (op_eqU K hr.units) (pe_ix (ix_U K) (pv 2) pe_int (fun _ _ => rfl)) pe_str (nomark _)) (pss_one (ps_ret (pe_mcal M_run_by TW.cl hr (pv 0) (pa_cons (pv 1) (pa_cons (pe_ix (ix_U K) (pv 2) pe_int (fun _ _ => rfl)) (pa_cons (pe_tup pa_nil) pa_nil))) (by omega)))) pss_nil)
      (pss_cons (ps_asg (pe_mcal M_asked TW.cl hr (pv 0) (pa_cons (pe_ix (ix_U K) (pv 2) pe_int (fun _ _ => rfl)) pa_nil) (by omega)) (pg_tupU (n := 2) K (by rfl) (pgs_cons (pg_name (i := 3) sc_PlainWalk_gone_through.nd rfl (.inl rfl)) (pgs_cons (pg_name (i := 4) sc_PlainWalk_gone_through.nd rfl (.inl rfl)) pgs_nil))))
      (pss_cons (ps_if (pt_not (pt_val (pv 3))) (pss_one (ps_ret (pe_tup (pa_cons (pe_tup pa_nil) (pa_cons (pe_tup (pa_cons pe_str (pa_cons (pe_ix (ix_U K) (pv 2) pe_int (fun _ _ => rfl)) pa_nil))) pa_nil))))) pss_nil)
      (pss_cons (ps_set (i := 5) sc_PlainWalk_gone_through.nd rfl (.inl rfl) (pe_tup (pa_cons (pe_tup (pa_cons (pe_tup (pa_cons pe_str (pa_cons (pe_ix (ix_U K) (pv 2) pe_int (fun _ _ => rfl)) pa_nil))) (pa_cons (pv 4) pa_nil))) pa_nil)))
      (pss_cons (ps_if (pt_cmpR op_isNo (pv 4) pe_non (nomark _)) (pss_one (ps_ret (pe_tup (pa_cons (pv 5) (pa_cons (pe_tup (pa_cons pe_str (pa_cons pe_str pa_nil))) pa_nil))))) pss_nil)
      (pss_one (ps_ret (pe_mcal M_run_by TW.cl hr (pv 0) (pa_cons (pv 1) (pa_cons (pv 4) (pa_cons (pv 5) pa_nil))) (by omega))))))))), ?_⟩
    obtain ⟨dx, kvs, h1, h2, h3, h4, h5, h6, h7, h8⟩ := id hw
    obtain ⟨a, x, y, rfl, ha, hx, hy⟩ := hs.pair
    have ex := hx.str
    subst ex
    rw [Nat.add_sub_cancel] at q
    walk_at "rd"
    refine i_ix_t ha (atI_nat (j := 0) rfl) ?_
    walk_at "rd"
    rw [decS]
    by_cases hk : s.k = "rule"
    · rw [decide_eq_true (p := s.k = "rule") hk]
      have htr : treeOk s.x = true := by
        rcases hsok with ⟨h, _⟩ | ⟨_, h⟩
        · rw [h] at hk; exact absurd hk (by decide)
        · exact h
      walk_at "rd"
      refine i_mk h5 rfl ?_
      walk_at "rd"
      refine i_ix_t ha (atI_nat (j := 1) rfl) ?_
      walk_at "rd"
      refine i_new_t (Nat.zero_le _) fun t H1 n1 s1 e1 => ?_
      walk_at "rd"
      refine ⟨Hb, wa, fr, on, p, prs, op, rs, name, y, .ref t, s.x, [], rfl, hw.same s1, ok, hz, by omega, hy.mono (.same s1), htr, dt_tup (.inl (.inl e1)) dts_nil, Nat.zero_le _, fun H2 v f2 hw2 hv => ?_⟩
      refine q H2 v ((Fr.same s1).trans f2) ?_ ?_
      · unfold goneBy; rw [if_pos hk]; exact hw2
      · unfold goneBy; rw [if_pos hk]; exact hv
    · rw [decide_eq_false (p := s.k = "rule") hk]
      obtain ⟨exs, hzs⟩ := srcTxt_ok hsok hl hk
      rw [exs] at hy
      have ey := hy.str
      subst ey
      walk_at "rd"
      refine i_mk h5 rfl ?_
      walk_at "rd"
      refine i_ix_t ha (atI_nat (j := 1) rfl) ?_
      walk_at "rd"
      refine ⟨Hb, wa, fr, on, p, prs, op, rs, srcTxt s, rfl, hw, ok, hzs, by omega, fun H1 v f1 hw1 hv => ?_⟩
      have st1 := hw.stay f1
      obtain ⟨hg, hkp⟩ := pAns_ok ok.pr n op rs (srcTxt s) ok.hr hzs
      unfold goneBy at q
      rw [if_neg hk] at q
      have ok1 := ok.kept hkp
      generalize (pAns prs n op rs (srcTxt s)).2 = rs' at q hw1 hkp ok1
      generalize (pAns prs n op rs (srcTxt s)).1 = g at q hv hg
      obtain ⟨dx', _, _, _, _, _, h5', _, _, _⟩ := id hw1
      cases hga : g.asked with
      | none =>
        rw [hga] at q hv
        obtain ⟨a1, x1, y1, rfl, ha1, hx1, hy1⟩ := Dt.pair (show Dt K H1 (.tuple [.bool false, .none]) v from hv)
        have ex1 : x1 = .bl false := by unfold Dt at hx1; exact hx1
        subst ex1
        walk_at "rd"
        refine i_gtup ha1 rfl ?_
        walk_at "rd"
        refine i_new_t (Nat.zero_le _) fun t2 H2 n2 s2 e2 => ?_
        walk_at "rd"
        refine i_ix_t (sqT_tt (st1.trans (.same s2)) ha) (atI_nat (j := 1) rfl) ?_
        walk_at "rd"
        refine i_new_t (by show 2 ≤ sizeLine; decide) fun t3 H3 n3 s3 e3 => ?_
        walk_at "rd"
        refine i_new_t (by show 2 ≤ sizeLine; decide) fun t4 H4 n4 s4 e4 => ?_
        refine q H4 _ (f1.trans (.same (s2.trans (s3.trans s4)))) (hw1.same (s2.trans (s3.trans s4))) ?_
        exact dt_tup (.inl (.inl e4)) (dts_cons (dt_tup (.inl (.inl (s4 _ _ (s3 _ _ e2)))) dts_nil) (dts_cons (dt_tup (.inl (.inl (s4 _ _ e3))) (dts_cons dt_str (dts_cons dt_str dts_nil))) dts_nil))
      | some o =>
        rw [hga] at q hv
        obtain ⟨a1, x1, y1, rfl, ha1, hx1, hy1⟩ := Dt.pair (show Dt K H1 (.tuple [.bool true, ansPy o]) v from hv)
        have ex1 : x1 = .bl true := by unfold Dt at hx1; exact hx1
        subst ex1
        walk_at "rd"
        refine i_gtup ha1 rfl ?_
        walk_at "rd"
        refine i_ix_t (sqT_tt st1 ha) (atI_nat (j := 1) rfl) ?_
        walk_at "rd"
        refine i_new_t (by show 2 ≤ sizeLine; decide) fun t2 H2 n2 s2 e2 => ?_
        walk_at "rd"
        refine i_new_t (by show 2 ≤ sizeLine; decide) fun t3 H3 n3 s3 e3 => ?_
        walk_at "rd"
        refine i_new_t (by show 1 ≤ sizeLine; decide) fun t4 H4 n4 s4 e4 => ?_
        have s24 := s2.trans (s3.trans s4)
        have das : Dt K H4 (.tuple (([("rule", srcTxt s, o)] : List Asked).map Asked.py)) (.ref t4) :=
          dt_tup (.inl (.inl e4)) (dts_cons (dt_tup (.inl (.inl (s4 _ _ e3))) (dts_cons (dt_tup (.inl (.inl (s4 _ _ (s3 _ _ e2)))) (dts_cons dt_str (dts_cons dt_str dts_nil))) (dts_cons (hy1.mono (.same s24)) dts_nil))) dts_nil)
        walk_at "rd"
        cases o with
        | none =>
          have ey1 : y1 = .non := (show Dt K H1 .none y1 from hy1).non
          subst ey1
          walk_at "rd"
          refine i_new_t (by show 2 ≤ sizeLine; decide) fun t5 H5 n5 s5 e5 => ?_
          walk_at "rd"
          refine i_new_t (by show 2 ≤ sizeLine; decide) fun t6 H6 n6 s6 e6 => ?_
          have s56 := s5.trans s6
          refine q H6 _ (f1.trans (.same (s24.trans s56))) (hw1.same (s24.trans s56)) ?_
          exact dt_tup (.inl (.inl e6)) (dts_cons (das.mono (.same s56)) (dts_cons (dt_tup (.inl (.inl (s6 _ _ e5))) (dts_cons dt_str (dts_cons dt_str dts_nil))) dts_nil))
        | some d =>
          have htd : treeOk d = true := by
            rcases got_ans hg hga with ⟨_, h⟩ | ⟨h, _⟩ | ⟨h, _⟩
            · exact h d rfl
            · exact absurd h (by decide)
            · exact absurd h (by decide)
          have hy1 : Dt K H1 d y1 := hy1
          refine iteDV (isT_ne hy1 (tree_lim htd).2) ?_
          walk_at "rd"
          refine i_mk (s24 _ _ h5') rfl ?_
          walk_at "rd"
          exact ⟨Hb, wa, fr, on, p, prs, op, rs', name, y1, .ref t4, d, [("rule", srcTxt s, some d)], rfl, hw1.same s24, ok1, hz, by omega, hy1.mono (.same s24), htd, das, Nat.le_refl _, fun H5 v f5 hw5 hv5 => q H5 v ((f1.trans (.same s24)).trans f5) hw5 hv5⟩
end
end Aw

namespace Aw
open PySem PySem.Spec PyProof.Rows L2

local macro_rules | `(tactic| walk_at "rd1") => `(tactic| first
  | ((with_reducible apply i_var); exact rfl)
  | with_reducible refine i_c ?_
  | with_reducible refine i_op ?_
  | with_reducible refine i_un ?_
  | with_reducible refine i_test ?_
  | with_reducible refine i_tB ?_
  | with_reducible refine i_bl ?_
  | with_reducible refine i_and ?_
  | with_reducible refine i_or ?_
  | with_reducible refine i_not ?_
  | with_reducible refine i_andV ?_
  | with_reducible refine i_orV ?_
  | with_reducible refine i_notV ?_
  | with_reducible refine i_if ?_
  | with_reducible refine i_chain ?_
  | with_reducible refine i_nil ?_
  | with_reducible refine i_cons ?_
  | with_reducible refine i_tup ?_
  | with_reducible refine i_lst ?_
  | with_reducible refine i_cb ?_
  | with_reducible refine i_call ?_
  | with_reducible refine i_bm ?_
  | with_reducible refine i_m1 ?_
  | with_reducible refine i_m0 ?_
  | with_reducible refine i_exstr ?_
  | with_reducible refine i_sl ?_
  | with_reducible refine i_nopart ?_
  | with_reducible refine i_part ?_
  | with_reducible refine i_int ?_
  | with_reducible refine i_seq ?_
  | with_reducible refine i_next ?_
  | with_reducible refine i_asg ?_
  | with_reducible refine i_gname ?_
  | with_reducible refine i_ret ?_
  | with_reducible refine i_retN ?_
  | with_reducible refine i_drop ?_
  | with_reducible refine i_ifS ?_
  | with_reducible refine i_break ?_
  | with_reducible refine i_cont ?_
  | ((with_reducible apply i_aug); exact rfl)
  | with_reducible refine i_add_i ?_
  | with_reducible refine i_sub ?_
  | with_reducible refine i_neg ?_
  | with_reducible refine i_ipadd_i ?_
  | with_reducible refine i_ip ?_
  | with_reducible refine i_lt ?_
  | with_reducible refine i_le ?_
  | with_reducible refine i_gt ?_
  | with_reducible refine i_ge ?_
  | with_reducible refine i_lt_s ?_
  | with_reducible refine i_le_s ?_
  | with_reducible refine i_gt_s ?_
  | with_reducible refine i_ge_s ?_
  | with_reducible refine i_isN ?_
  | with_reducible refine i_notN ?_
  | with_reducible refine i_in_c ?_
  | with_reducible refine i_nin_c ?_
  | with_reducible refine i_gsub ?_
  | with_reducible refine i_gcons ?_
  | with_reducible refine i_gnil ?_
  | with_reducible refine i_iList ?_
  | with_reducible refine i_iTup ?_
  | with_reducible refine i_iStr ?_
  | with_reducible refine i_iRng1 ?_
  | with_reducible refine i_lc ?_
  | with_reducible refine i_for ?_
  | with_reducible refine i_yes ?_
  | with_reducible refine i_repl ?_
  | with_reducible refine i_meth ?_
  | with_reducible refine i_fld ?_
  | with_reducible refine i_sfld ?_
  | with_reducible refine i_din ?_
  | with_reducible refine i_dnin ?_
  | with_reducible refine i_dget ?_
  | with_reducible refine i_dput ?_
  | with_reducible refine i_joined ?_
  | with_reducible refine i_callS ?_
  | with_reducible refine i_xf ?_
  | with_reducible refine i_revL ?_
  | with_reducible refine i_items ?_
  | with_reducible refine i_stepL ?_
  | with_reducible refine i_make ?_
  | with_reducible refine i_fmt ?_
  | with_reducible refine i_jcons ?_
  | with_reducible refine i_jnil ?_
  | with_reducible refine i_iEnum ?_
  | with_reducible refine i_faug ?_
  | with_reducible refine i_dget2 ?_
  | with_reducible refine i_kin ?_
  | with_reducible refine i_kix ?_
  | with_reducible refine i_bm0 ?_
  | with_reducible refine i_meth ?_
  | with_reducible refine iteT ?_
  | with_reducible refine iteF ?_
  | with_reducible refine iteNT ?_
  | with_reducible refine iteNF ?_
  | ((with_reducible refine i_len_s ?_ ?_); (first | assumption | exact szl (by assumption)))
  | ((with_reducible refine i_sl_s ?_ ?_); (first | assumption | exact szl (by assumption)))
  | with_reducible refine i_int_b ?_
  | with_reducible refine i_abs ?_
  | with_reducible refine i_min2 ?_
  | with_reducible refine i_eq rfl ?_
  | with_reducible refine i_ne rfl ?_
  | with_reducible refine iteDR ?_
  | with_reducible refine iteRN ?_
  | with_reducible refine iteI1 ?_
  | with_reducible refine iteI2 ?_
  | with_reducible refine iteI3 ?_
  | with_reducible refine iteI4 ?_
  | with_reducible refine iteSN ?_
  | with_reducible refine iteNDR ?_
  | with_reducible refine iteNRN ?_
  | with_reducible refine iteNSN ?_
  | with_reducible refine iteST (by first | rfl | decide) ?_
  | with_reducible refine iteSF (by decide) ?_
  | with_reducible refine iteNST (by first | rfl | decide) ?_
  | with_reducible refine iteNSF (by decide) ?_)
local macro_rules | `(tactic| walk_at "rd") => `(tactic| repeat walk_at "rd1")

abbrev s_PlainWalk___init__ : Stmt := inClass (topS 47) 0
theorem sc_PlainWalk___init__ : FnScope ["self", "project"] ["self", "project"] (defScope s_PlainWalk___init__) := ⟨rfl, rfl, rfl, by decide +kernel, rfl, by decide +kernel, by decide +kernel⟩
section
variable {P : Program} {w : World} {K : PySem.W.Frag} {mg : Str → Option Value} {base : Heap}
/-! ### run_by -/
theorem isr_none {H H1 : Hp} {a : Addr} (s : Same H H1) (h : H1 a = none) : H a = none := none_back s h
theorem runLoop_end {prs : Prs} {ask : AskF} {k : Nat} {m : Mac} {rs : Runs} (h : m.st ≠ .go) (h2 : ∀ x y, m.st ≠ .asks x y) : runLoop prs ask (k + 1) m rs = ((m.asks, m.fin), rs) := by
  unfold runLoop
  cases e : m.st with
  | asks x y => exact absurd e (h2 x y)
  | go => exact absurd e h
  | said d => rfl
  | fault d => rfl
theorem runLoop_asks {prs : Prs} {ask : AskF} {k : Nat} {m : Mac} {rs : Runs} {x z : Str} (h : m.st = .asks x z) : runLoop prs ask (k + 1) m rs = if x = "thing" then (match (ask rs z).1.asked with
        | none => ((m.asks, .stuck z), (ask rs z).2)
        | some o => runLoop prs ask k (m.answer o) (ask rs z).2)
      else runLoop prs ask k (m.answer (some (lookedUp prs x z))) rs := by
  conv => lhs; unfold runLoop
  rw [h] <;> rfl
def RunInv (K : PySem.W.Frag) (CP CW CM : Addr) (Hb H H3 : Hp) (wa fr on p ma ba la : Addr) (prs : Prs) (op : List Str) (n : Nat) (name : Str) (vr va : V) (R : Run × Runs) (k : Nat) (σ : L2.St) (H4 : Hp) : Prop := ∃ (M : Mac) (rs1 : Runs) (y1 y2 y3 : Option V), σ = [some (.ref wa), some (.str name), some vr, some va, some (.ref ma), y1, y2, y3] ∧ MAt K CM H4 ma ba la M ∧ MacOk M ∧ M.st ≠ .go ∧ WAt K CP CW Hb H4 wa fr on p prs op rs1 ∧ WOk prs op rs1 ∧
        runLoop prs (pAns prs n op) k M rs1 = R ∧ k + M.asks.length = 302 ∧ Fr (MS ma ba la ++ WS fr on) H3 H4 ∧ Stay H H4
theorem ok_run_by {CP CW CM : Addr} (D : DfM K CW "run_by" "PlainWalk.run_by" s_PlainWalk_run_by ["self", "name", "rule", "asks"]) (TW : WCls K CW) (TP : PCls K mg CP) (TM : MCls K CM) (n : Nat) (M_wasked : CalM P w K mg base CX0 CW "asked" ["self", "name"] (4 * n + 25) (spWAsked K CP CW n))
    (C_is_rule : Cal P w K mg base CX0 "is_rule" ["value"] 16 (spIsRule K)) (M_Machine : CalI P w K mg base CX0 CM "Machine" ["self", "rule", "own"] 19 (spMacInit K CM)) (M_now : CalM P w K mg base CX0 CM "now" ["self"] 1 (spNow K CM)) (M_asked : CalM P w K mg base CX0 CM "asked" ["self"] 1 (spAsked K CM))
    (M_answer : CalM P w K mg base CX0 CM "answer" ["self", "tree"] 19 (spAnswer K CM)) (M_looked_up : CalM P w K mg base CX0 CP "looked_up" ["self", "ask"] 2 (spLookedUp K CP)) : CalM P w K mg base CX0 CW "run_by" ["self", "name", "rule", "asks"] (4 * n + 26) (spRunBy K CP CW n) := by
  refine D.cal fun f fd F => F.ok sc_PlainWalk_run_by (fun vs H Q E h => ?_) (fun cdv A outer s H vs Q E hr h => ?_)
  · obtain ⟨_, _, _, _, _, _, _, _, _, _, _, _, _, rfl, _⟩ := h
    rfl
  · obtain ⟨Hb, wa, fr, on, p, prs, op, rs, name, vr, va, rule, as, rfl, hw, ok, hz, hn, hvr, htr, hva, hal, q⟩ := h
    refine ⟨_, (pss_cons (ps_if (pt_not (pt_val (pe_cal C_is_rule hr (by rfl) (pa_cons (pv 2) pa_nil) (by omega)))) (pss_one (ps_ret (pe_tup (pa_cons (pv 3) (pa_cons (pe_tup (pa_cons pe_str (pa_cons pe_str pa_nil))) pa_nil))))) pss_nil)
      (pss_cons (ps_set (i := 4) sc_PlainWalk_run_by.nd rfl (.inl rfl) (pe_ical M_Machine hr (by rfl) (pa_cons (pv 2) (pa_cons (pv 1) pa_nil)) (by omega)))
      (pss_cons (ps_while PassesOwn.never (pt_cmpR (op_eqU K hr.units) (pe_ix (ix_U K) (pe_mcal0 M_now TM.cl hr (pv 4) (by omega)) pe_int (fun _ _ => rfl)) pe_str (nomark _)) (pss_cons (ps_set (i := 5) sc_PlainWalk_run_by.nd rfl (.inl rfl) (pe_ix (ix_U K) (pe_mcal0 M_now TM.cl hr (pv 4) (by omega)) pe_int (fun _ _ => rfl)))
      (pss_cons (ps_asg (pe_tup (pa_cons pe_bl (pa_cons pe_non pa_nil))) (pg_tupU (n := 2) K (by rfl) (pgs_cons (pg_name (i := 6) sc_PlainWalk_run_by.nd rfl (.inl rfl)) (pgs_cons (pg_name (i := 7) sc_PlainWalk_run_by.nd rfl (.inl rfl)) pgs_nil))))
      (pss_cons (ps_if (pt_cmpR (op_eqU K hr.units) (pe_ix (ix_U K) (pv 5) pe_int (fun _ _ => rfl)) pe_str (nomark _)) (pss_one (ps_asg (pe_mcal M_wasked TW.cl hr (pv 0) (pa_cons (pe_ix (ix_U K) (pv 5) pe_int (fun _ _ => rfl)) pa_nil) (by omega)) (pg_tupU (n := 2) K (by rfl) (pgs_cons (pg_name (i := 6) sc_PlainWalk_run_by.nd rfl (.inl rfl)) (pgs_cons (pg_name (i := 7) sc_PlainWalk_run_by.nd rfl (.inl rfl)) pgs_nil))))) (pss_one (ps_set (i := 7) sc_PlainWalk_run_by.nd rfl (.inl rfl) (pe_mcal M_looked_up TP.cl hr (pe_fldU K (pv 0) rfl) (pa_cons (pv 5) pa_nil) (by omega)))))
      (pss_cons (ps_if (pt_not (pt_val (pv 6))) (pss_one (ps_ret (pe_tup (pa_cons (pe_op (op_addU K) (pv 3) (pe_mcal0 M_asked TM.cl hr (pv 4) (by omega))) (pa_cons (pe_tup (pa_cons pe_str (pa_cons (pe_ix (ix_U K) (pv 5) pe_int (fun _ _ => rfl)) pa_nil))) pa_nil))))) pss_nil)
      (pss_one (ps_expr (pe_mcal M_answer TM.cl hr (pv 4) (pa_cons (pv 7) pa_nil) (by omega)))))))))
      (pss_one (ps_ret (pe_tup (pa_cons (pe_op (op_addU K) (pv 3) (pe_mcal0 M_asked TM.cl hr (pv 4) (by omega))) (pa_cons (pe_mcal0 M_now TM.cl hr (pv 4) (by omega)) pa_nil)))))))), ?_⟩
    walk_at "rd"
    refine ⟨vr, rule, rfl, hvr, (treeOk_good htr).g, fun H1 s1 => ?_⟩
    have hask := pAns_ok ok.pr n op
    unfold runBy at q
    cases hru : isRule rule with
    | false =>
      rw [hru, if_neg (by decide)] at q
      walk_at "rd"
      refine i_new_t (by show 2 ≤ sizeLine; decide) fun t2 H2 n2 s2 e2 => ?_
      walk_at "rd"
      refine i_new_t (by show 2 ≤ sizeLine; decide) fun t3 H3 n3 s3 e3 => ?_
      have s13 := s1.trans (s2.trans s3)
      refine q H3 _ (.same s13) (hw.same s13) ?_
      exact dt_tup (.inl (.inl e3)) (dts_cons (hva.mono (.same s13)) (dts_cons (dt_tup (.inl (.inl (s3 _ _ e2))) (dts_cons dt_str (dts_cons dt_str dts_nil))) dts_nil))
    | true =>
      rw [hru, if_pos rfl] at q
      walk_at "rd"
      refine i_mko fun ma dxm H2 nm s2 e2 => ?_
      have s12 := s1.trans s2
      refine ⟨ma, dxm, vr, rule, name, rfl, e2, hvr.mono (.same s12), hru, hz, fun H3 ba la k3 nb nl hm3 => ⟨rfl, ?_⟩⟩
      have nm0 : H ma = none := none_back s1 nm
      have nb0 : H ba = none := none_back s12 nb
      have nl0 : H la = none := none_back s12 nl
      have s03 : Same H H3 := fun b o e => k3 b o (s12 _ _ e) (ne_of_none e nm0)
      have hnew : ∀ a ∈ MS ma ba la, H a = none := by
        intro a ha
        rcases List.mem_cons.mp ha with rfl | ha
        · exact nm0
        rcases List.mem_cons.mp ha with rfl | ha
        · exact nb0
        rcases List.mem_cons.mp ha with rfl | ha
        · exact nl0
        cases ha
      obtain ⟨dx, kvs, h1, h2, h3, h4, h5, h6, h7, h8⟩ := id hw
      have hdis : ma ∉ WS fr on ∧ ba ∉ WS fr on ∧ la ∉ WS fr on := by
        have key : ∀ a, H a = none → a ∉ WS fr on := fun a ha hq => by
          rcases List.mem_cons.mp hq with rfl | hq
          · rw [h6] at ha; cases ha
          rcases List.mem_cons.mp hq with rfl | hq
          · rw [h8] at ha; cases ha
          cases hq
        exact ⟨key _ nm0, key _ nb0, key _ nl0⟩
      walk_at "rd"
      -- the loop
      have hR0 : runLoop prs (pAns prs n op) 302 (Mac.begin rule name) rs = runLoop prs (pAns prs n op) 302 (Mac.begin rule name) rs := rfl
      obtain ⟨R, hR⟩ : ∃ R, runLoop prs (pAns prs n op) 302 (Mac.begin rule name) rs = R := ⟨_, rfl⟩
      rw [hR] at q
      clear hR0
      refine i_while (RunInv K CP CW CM Hb H H3 wa fr on p ma ba la prs op n name vr va R) 302 ⟨Mac.begin rule name, rs, none, none, none, rfl, hm3, begin_ok hru hz, begin_end hru hz, hw.same s03, ok, hR, ?_, .refl _ _, .same s03⟩ ?_
      · show 302 + (Mac.begin rule name).asks.length = 302
        have := (goOn_rule 302 (mac0 rule name)).2.2
        rw [show (Mac.begin rule name).asks = [] from this]
        rfl
      rintro k σ H4 ⟨M, rs1, y1, y2, y3, rfl, hm4, okm, hngo, hw4, ok4, hrun, hk, f4, st4⟩
      have hal3 := okm.run.2
      obtain ⟨k, rfl⟩ : ∃ j, k = j + 1 := ⟨k - 1, by omega⟩
      obtain ⟨dm, tr', vr', vs', bv', xs', em, _, _, ebm, _, elm, _, _⟩ := id hm4
      have fS : ∀ a o, H a = some o → a ∉ WS fr on → H4 a = some o := fun a o e hq => f4 _ _ (fun hq2 => (List.mem_append.mp hq2).elim (fun hq3 => by rw [hnew a hq3] at e; cases e) hq) (s03 _ _ e)
      walk_at "rd"
      refine i_mk em rfl ?_
      walk_at "rd"
      refine ⟨ma, ba, la, M, rfl, hm4, fun u hu => ?_⟩
      cases hst : M.st with
      | go => exact absurd hst hngo
      | said d =>
        have hna : ∀ x y, M.st ≠ .asks x y := fun x y e => by rw [hst] at e; cases e
        rw [hst] at hu
        obtain ⟨sa, x1, x2, rfl, hsa, hx1, hx2⟩ := Dt.pair (show Dt K H4 (.tuple [.str "said", d]) u from hu)
        have ex := hx1.str
        subst ex
        refine i_ix_t hsa (atI_nat (j := 0) rfl) ?_
        rw [runLoop_end hngo hna] at hrun
        obtain ⟨aa, axs, rfl, haa, haq⟩ := hva.tupX
        walk_at "rd"
        refine i_mk em rfl ?_
        walk_at "rd"
        refine ⟨ma, ba, la, M, rfl, hm4, fun H5 v5 s5 hv5 => ?_⟩
        obtain ⟨ba2, bxs, rfl, hbb, hbq⟩ := hv5.tupX
        have hl1 := haq.length
        have hl2 := hbq.length
        rw [List.length_map] at hl1 hl2
        refine i_add_tX ((st4.trans (.same s5)).t _ _ haa) hbb (szl (by omega)) fun t6 H6 s6 e6 => ?_
        have s46 := s5.trans s6
        walk_at "rd"
        refine i_mk (s46 _ _ em) rfl ?_
        walk_at "rd"
        refine ⟨ma, ba, la, M, rfl, hm4.same s46, fun v7 hv7 => ?_⟩
        walk_at "rd"
        refine i_new_t (by show 2 ≤ sizeLine; decide) fun t8 H8 n8 s8 e8 => ?_
        have s48 := s46.trans s8
        have d6 : Dt K H6 (.tuple ((as ++ M.asks).map Asked.py)) (.ref t6) := by
          rw [List.map_append]
          exact dt_tupX e6 ((haq.mono (st4.trans (.same s46))).append (hbq.mono (.same s6)))
        have hfin : M.fin.py = M.st.py := by
          unfold Mac.fin
          rw [hst]
          rfl
        rw [← hrun] at q
        refine q H8 _ ?_ (hw4.same s48) ?_
        · intro c o hc hco
          exact s48 _ _ (fS _ _ hco hc)
        · exact dt_tup (.inl (.inl e8)) (dts_cons (d6.mono (.same s8)) (dts_cons (hfin ▸ hv7.mono (.same s8)) dts_nil))
      | fault d =>
        have hna : ∀ x y, M.st ≠ .asks x y := fun x y e => by rw [hst] at e; cases e
        rw [hst] at hu
        obtain ⟨sa, x1, x2, rfl, hsa, hx1, hx2⟩ := Dt.pair (show Dt K H4 (.tuple [.str "fault", .str d]) u from hu)
        have ex := hx1.str
        subst ex
        refine i_ix_t hsa (atI_nat (j := 0) rfl) ?_
        rw [runLoop_end hngo hna] at hrun
        obtain ⟨aa, axs, rfl, haa, haq⟩ := hva.tupX
        walk_at "rd"
        refine i_mk em rfl ?_
        walk_at "rd"
        refine ⟨ma, ba, la, M, rfl, hm4, fun H5 v5 s5 hv5 => ?_⟩
        obtain ⟨ba2, bxs, rfl, hbb, hbq⟩ := hv5.tupX
        have hl1 := haq.length
        have hl2 := hbq.length
        rw [List.length_map] at hl1 hl2
        refine i_add_tX ((st4.trans (.same s5)).t _ _ haa) hbb (szl (by omega)) fun t6 H6 s6 e6 => ?_
        have s46 := s5.trans s6
        walk_at "rd"
        refine i_mk (s46 _ _ em) rfl ?_
        walk_at "rd"
        refine ⟨ma, ba, la, M, rfl, hm4.same s46, fun v7 hv7 => ?_⟩
        walk_at "rd"
        refine i_new_t (by show 2 ≤ sizeLine; decide) fun t8 H8 n8 s8 e8 => ?_
        have s48 := s46.trans s8
        have d6 : Dt K H6 (.tuple ((as ++ M.asks).map Asked.py)) (.ref t6) := by
          rw [List.map_append]
          exact dt_tupX e6 ((haq.mono (st4.trans (.same s46))).append (hbq.mono (.same s6)))
        have hfin : M.fin.py = M.st.py := by
          unfold Mac.fin
          rw [hst]
          rfl
        rw [← hrun] at q
        refine q H8 _ ?_ (hw4.same s48) ?_
        · intro c o hc hco
          exact s48 _ _ (fS _ _ hco hc)
        · exact dt_tup (.inl (.inl e8)) (dts_cons (d6.mono (.same s8)) (dts_cons (hfin ▸ hv7.mono (.same s8)) dts_nil))
      | asks x z =>
        have hu0 := hu
        rw [hst] at hu
        obtain ⟨sa, x1, x2, rfl, hsa, hx1, hx2⟩ := Dt.pair (show Dt K H4 (.tuple [.str "asks", .tuple [.str x, .str z]]) u from hu)
        have ex := hx1.str
        subst ex
        refine i_ix_t hsa (atI_nat (j := 0) rfl) ?_
        walk_at "rd"
        have hstp := okm.st
        rw [hst] at hstp
        rw [runLoop_asks hst] at hrun
        refine ⟨RunInv K CP CW CM Hb H H3 wa fr on p ma ba la prs op n name vr va R k, fun σ' H' h => ⟨k, by omega, h⟩, ?_⟩
        have h5m : ∀ {H5 : Hp}, Same H4 H5 → H5 wa = some (.ins CW dx (wfs p fr on)) := fun {H5} s5 => s5 _ _ (f4 _ _ (fun hq => (List.mem_append.mp hq).elim (fun hq3 => by rw [hnew _ hq3] at h5; cases h5) fun hq3 => by
          rcases List.mem_cons.mp hq3 with hq3 | hq3
          · rw [hq3, h6] at h5; cases h5
          rcases List.mem_cons.mp hq3 with hq3 | hq3
          · rw [hq3, h8] at h5; cases h5
          cases hq3) (s03 _ _ h5))
        walk_at "rd"
        refine i_mk em rfl ?_
        walk_at "rd"
        refine ⟨ma, ba, la, M, rfl, hm4, fun u2 hu2 => ?_⟩
        rw [hst] at hu2
        obtain ⟨sb, w1, w2, rfl, hsb, hw1, hw2⟩ := Dt.pair (show Dt K H4 (.tuple [.str "asks", .tuple [.str x, .str z]]) u2 from hu2)
        obtain ⟨sc, w3, w4, rfl, hscX, hw3, hw4'⟩ := Dt.pairX hw2
        have hsc := SqT.mk (K := K) hscX
        have ew := hw3.str
        subst ew
        have ew := hw4'.str
        subst ew
        refine i_ix_t hsb (atI_nat (j := 1) rfl) ?_
        walk_at "rd"
        refine i_new_t (by show 2 ≤ sizeLine; decide) fun t5 H5 n5 s5 e5 => ?_
        walk_at "rd"
        refine i_gtup (.inl (.inl e5)) rfl ?_
        walk_at "rd"
        refine i_ix_t (sqT_tt (.same s5) hsc) (atI_nat (j := 0) rfl) ?_
        walk_at "rd"
        rw [decS]
        have hw5 := hw4.same s5
        by_cases hx : x = "thing"
        · rw [decide_eq_true (p := x = "thing") hx]
          rw [if_pos hx] at hrun
          have hzn : nameOk z = true := by
            rcases hstp.2.1 with ⟨_, h⟩ | ⟨h, _⟩ | ⟨h, _⟩
            · exact h
            · rw [hx] at h; exact absurd h (by decide)
            · rw [hx] at h; exact absurd h (by decide)
          walk_at "rd"
          refine i_mk (h5m s5) rfl ?_
          walk_at "rd"
          refine i_ix_t (sqT_tt (.same s5) hsc) (atI_nat (j := 1) rfl) ?_
          walk_at "rd"
          refine ⟨Hb, wa, fr, on, p, prs, op, rs1, z, rfl, hw5, ok4, hzn, hn, fun H6 v6 f6 hw6 hv6 => ?_⟩
          have st6 := hw5.stay f6
          obtain ⟨hg, hkp⟩ := hask rs1 z ok4.hr hzn
          have ok6 := ok4.kept hkp
          generalize (pAns prs n op rs1 z).2 = rs2 at hrun hw6 hkp ok6
          generalize (pAns prs n op rs1 z).1 = g at hrun hv6 hg
          have hm6 : MAt K CM H6 ma ba la M := (hm4.same s5).fr f6 st6 hdis.1 hdis.2.1 hdis.2.2
          have em6 : H6 ma = some (.ins CM dm (mfs tr' vr' M.own ba la M.at' M.done vs')) := f6 _ _ hdis.1 (s5 _ _ em)
          have st46 : Stay H4 H6 := (Stay.same s5).trans st6
          have f36 : Fr (MS ma ba la ++ WS fr on) H3 H6 := (f4.trans (.same s5)).trans (f6.sub fun a ha => List.mem_append_right _ ha)
          cases hga : g.asked with
          | none =>
            rw [hga] at hrun hv6
            obtain ⟨a1, x1', y1', rfl, ha1, hx1', hy1'⟩ := Dt.pair (show Dt K H6 (.tuple [.bool false, .none]) v6 from hv6)
            have ex1 : x1' = .bl false := by unfold Dt at hx1'; exact hx1'
            subst ex1
            refine i_gtup ha1 rfl ?_
            walk_at "rd"
            obtain ⟨aa, axs, rfl, haa, haq⟩ := hva.tupX
            refine i_mk em6 rfl ?_
            walk_at "rd"
            refine ⟨ma, ba, la, M, rfl, hm6, fun H7 v7 s7 hv7 => ?_⟩
            obtain ⟨ba2, bxs, rfl, hbb, hbq⟩ := hv7.tupX
            have hl1 := haq.length
            have hl2 := hbq.length
            rw [List.length_map] at hl1 hl2
            have st06 := st4.trans st46
            refine i_add_tX ((st06.trans (.same s7)).t _ _ haa) hbb (szl (by omega)) fun t8 H8 s8 e8 => ?_
            have s68 := s7.trans s8
            walk_at "rd"
            refine i_ix_t (sqT_tt (st46.trans (.same s68)) hsc) (atI_nat (j := 1) rfl) ?_
            walk_at "rd"
            refine i_new_t (by show 2 ≤ sizeLine; decide) fun t9 H9 n9 s9 e9 => ?_
            walk_at "rd"
            refine i_new_t (by show 2 ≤ sizeLine; decide) fun t10 H10 n10 s10 e10 => ?_
            have d8 : Dt K H8 (.tuple ((as ++ M.asks).map Asked.py)) (.ref t8) := by
              rw [List.map_append]
              exact dt_tupX e8 ((haq.mono (st06.trans (.same s68))).append (hbq.mono (.same s8)))
            rw [← hrun] at q
            have s610 := s68.trans (s9.trans s10)
            refine q H10 _ ?_ (hw6.same s610) ?_
            · intro c o hc hco
              exact s610 _ _ (f6 _ _ hc (s5 _ _ (fS _ _ hco hc)))
            · exact dt_tup (.inl (.inl e10)) (dts_cons (d8.mono (.same (s9.trans s10))) (dts_cons (dt_tup (.inl (.inl (s10 _ _ e9))) (dts_cons dt_str (dts_cons dt_str dts_nil))) dts_nil))
          | some o =>
            rw [hga] at hrun hv6
            obtain ⟨a1, x1', y1', rfl, ha1, hx1', hy1'⟩ := Dt.pair (show Dt K H6 (.tuple [.bool true, ansPy o]) v6 from hv6)
            have ex1 : x1' = .bl true := by unfold Dt at hx1'; exact hx1'
            subst ex1
            refine i_gtup ha1 rfl ?_
            walk_at "rd"
            have ho : OD K H6 o y1' := by
              cases o with
              | none => exact (show Dt K H6 .none y1' from hy1').non
              | some d => exact hy1'
            have hans : ansOk x o := by rw [hx]; exact got_ans hg hga
            refine i_mk em6 rfl ?_
            walk_at "rd"
            refine ⟨ma, ba, la, M, x, z, y1', o, rfl, hm6, okm, hst, ho, hans, fun H7 f7 hm7 => ?_⟩
            obtain ⟨a1', a2, a3, a4, a5⟩ := answer_ok okm hst hans
            have st7 := hm6.stay f7
            exact ⟨M.answer o, rs2, _, _, _, rfl, hm7, a1', a2, hw6.fr_new hw hnew f7 st7, ok6, hrun, by rw [a3, List.length_append]; show k + (M.asks.length + 1) = 302; omega, f36.trans (f7.sub fun a ha => List.mem_append_left _ ha), (st4.trans st46).trans st7⟩
        · rw [decide_eq_false (p := x = "thing") hx]
          rw [if_neg hx] at hrun
          have hk2 : x = "has" ∨ x = "names" := by
            rcases hstp.2.1 with ⟨h, _⟩ | ⟨h, _⟩ | ⟨h, _⟩
            · exact absurd h hx
            · exact .inl h
            · exact .inr h
          walk_at "rd"
          obtain ⟨dp, tp, kp2, ep, _, _⟩ := id hw5.pr
          refine i_fk (h5m s5) TW.cl TW.n_pr rfl ?_
          refine i_mk ep rfl ?_
          walk_at "rd"
          refine ⟨p, .ref sc, prs, x, z, rfl, hw5.pr, ok.pr, (dt_tupX (s5 _ _ hscX) (dts_cons dt_str (dts_cons dt_str dts_nil))), fun H6 v6 s6 hv6 => ?_⟩
          have s46 := s5.trans s6
          walk_at "rd"
          refine i_mk (s46 _ _ em) rfl ?_
          walk_at "rd"
          have hans := looked_ok ok.pr (z := z) hk2
          refine ⟨ma, ba, la, M, x, z, v6, some (lookedUp prs x z), rfl, hm4.same s46, okm, hst, hv6, hans, fun H7 f7 hm7 => ?_⟩
          obtain ⟨a1', a2, a3, a4, a5⟩ := answer_ok okm hst hans
          have st7 := (hm4.same s46).stay f7
          exact ⟨M.answer _, rs1, _, _, _, rfl, hm7, a1', a2, (hw4.same s46).fr_new hw hnew f7 st7, ok4, hrun, by rw [a3, List.length_append]; show k + (M.asks.length + 1) = 302; omega, (f4.trans (.same s46)).trans (f7.sub fun a ha => List.mem_append_left _ ha), (st4.trans (.same s46)).trans st7⟩
end
end Aw

namespace Aw
open PySem PySem.Spec PyProof.Rows L2

local macro_rules | `(tactic| walk_at "rd1") => `(tactic| first
  | ((with_reducible apply i_var); exact rfl)
  | with_reducible refine i_c ?_
  | with_reducible refine i_op ?_
  | with_reducible refine i_un ?_
  | with_reducible refine i_test ?_
  | with_reducible refine i_tB ?_
  | with_reducible refine i_bl ?_
  | with_reducible refine i_and ?_
  | with_reducible refine i_or ?_
  | with_reducible refine i_not ?_
  | with_reducible refine i_andV ?_
  | with_reducible refine i_orV ?_
  | with_reducible refine i_notV ?_
  | with_reducible refine i_if ?_
  | with_reducible refine i_chain ?_
  | with_reducible refine i_nil ?_
  | with_reducible refine i_cons ?_
  | with_reducible refine i_tup ?_
  | with_reducible refine i_lst ?_
  | with_reducible refine i_cb ?_
  | with_reducible refine i_call ?_
  | with_reducible refine i_bm ?_
  | with_reducible refine i_m1 ?_
  | with_reducible refine i_m0 ?_
  | with_reducible refine i_exstr ?_
  | with_reducible refine i_sl ?_
  | with_reducible refine i_nopart ?_
  | with_reducible refine i_part ?_
  | with_reducible refine i_int ?_
  | with_reducible refine i_seq ?_
  | with_reducible refine i_next ?_
  | with_reducible refine i_asg ?_
  | with_reducible refine i_gname ?_
  | with_reducible refine i_ret ?_
  | with_reducible refine i_retN ?_
  | with_reducible refine i_drop ?_
  | with_reducible refine i_ifS ?_
  | with_reducible refine i_break ?_
  | with_reducible refine i_cont ?_
  | ((with_reducible apply i_aug); exact rfl)
  | with_reducible refine i_add_i ?_
  | with_reducible refine i_sub ?_
  | with_reducible refine i_neg ?_
  | with_reducible refine i_ipadd_i ?_
  | with_reducible refine i_ip ?_
  | with_reducible refine i_lt ?_
  | with_reducible refine i_le ?_
  | with_reducible refine i_gt ?_
  | with_reducible refine i_ge ?_
  | with_reducible refine i_lt_s ?_
  | with_reducible refine i_le_s ?_
  | with_reducible refine i_gt_s ?_
  | with_reducible refine i_ge_s ?_
  | with_reducible refine i_isN ?_
  | with_reducible refine i_notN ?_
  | with_reducible refine i_in_c ?_
  | with_reducible refine i_nin_c ?_
  | with_reducible refine i_gsub ?_
  | with_reducible refine i_gcons ?_
  | with_reducible refine i_gnil ?_
  | with_reducible refine i_iList ?_
  | with_reducible refine i_iTup ?_
  | with_reducible refine i_iStr ?_
  | with_reducible refine i_iRng1 ?_
  | with_reducible refine i_lc ?_
  | with_reducible refine i_for ?_
  | with_reducible refine i_yes ?_
  | with_reducible refine i_repl ?_
  | with_reducible refine i_meth ?_
  | with_reducible refine i_fld ?_
  | with_reducible refine i_sfld ?_
  | with_reducible refine i_din ?_
  | with_reducible refine i_dnin ?_
  | with_reducible refine i_dget ?_
  | with_reducible refine i_dput ?_
  | with_reducible refine i_joined ?_
  | with_reducible refine i_callS ?_
  | with_reducible refine i_xf ?_
  | with_reducible refine i_revL ?_
  | with_reducible refine i_items ?_
  | with_reducible refine i_stepL ?_
  | with_reducible refine i_make ?_
  | with_reducible refine i_fmt ?_
  | with_reducible refine i_jcons ?_
  | with_reducible refine i_jnil ?_
  | with_reducible refine i_iEnum ?_
  | with_reducible refine i_faug ?_
  | with_reducible refine i_dget2 ?_
  | with_reducible refine i_kin ?_
  | with_reducible refine i_kix ?_
  | with_reducible refine i_bm0 ?_
  | with_reducible refine i_meth ?_
  | with_reducible refine iteT ?_
  | with_reducible refine iteF ?_
  | with_reducible refine iteNT ?_
  | with_reducible refine iteNF ?_
  | ((with_reducible refine i_len_s ?_ ?_); (first | assumption | exact szl (by assumption)))
  | ((with_reducible refine i_sl_s ?_ ?_); (first | assumption | exact szl (by assumption)))
  | with_reducible refine i_int_b ?_
  | with_reducible refine i_abs ?_
  | with_reducible refine i_min2 ?_
  | with_reducible refine i_eq rfl ?_
  | with_reducible refine i_ne rfl ?_
  | with_reducible refine iteDR ?_
  | with_reducible refine iteRN ?_
  | with_reducible refine iteI1 ?_
  | with_reducible refine iteI2 ?_
  | with_reducible refine iteI3 ?_
  | with_reducible refine iteI4 ?_
  | with_reducible refine iteSN ?_
  | with_reducible refine iteNDR ?_
  | with_reducible refine iteNRN ?_
  | with_reducible refine iteNSN ?_
  | with_reducible refine iteST (by first | rfl | decide) ?_
  | with_reducible refine iteSF (by decide) ?_
  | with_reducible refine iteNST (by first | rfl | decide) ?_
  | with_reducible refine iteNSF (by decide) ?_)
local macro_rules | `(tactic| walk_at "rd") => `(tactic| repeat walk_at "rd1")

section
variable {P : Program} {w : World} {K : PySem.W.Frag} {mg : Str → Option Value} {base : Heap}
theorem valV_str_pos {kvs : List (Key × V)} {b : List (Str × PyData)} {H : Hp} {z : Str} {d : PyData} (h : KD K H kvs b) (e : b.lookup z = some d) : ∃ v, valV kvs (Sum.inr z : Key) = some v ∧ Dt K H d v := by
  rcases kd_look (z := z) h with ⟨h1, _⟩ | ⟨d', v, h1, h2, h3⟩
  · rw [e] at h1; cases h1
  · rw [e] at h1
    cases h1
    exact ⟨v, h2, h3⟩
theorem valV_str_neg {kvs : List (Key × V)} {b : List (Str × PyData)} {H : Hp} {z : Str} (h : KD K H kvs b) (e : b.lookup z = none) : valV kvs (Sum.inr z : Key) = none := by
  rcases kd_look (z := z) h with ⟨_, h2⟩ | ⟨d', v, h1, _⟩
  · exact h2
  · rw [e] at h1; cases h1
theorem inV_strs {z : Str} : ∀ {l : List Str}, inV (V.str z) (l.map V.str) = decide (z ∈ l)
  | [] => rfl
  | x :: r => by
    have ih := inV_strs (z := z) (l := r)
    unfold inV at ih ⊢
    rw [List.map_cons, List.any_cons, ih]
    have e : eqV (V.str x) (V.str z) = decide (z = x) := by
      by_cases c : z = x
      · subst c; rw [decide_eq_true rfl]; simp [eqV]
      · rw [decide_eq_false c]; simp [eqV]; exact fun q => c q.symm
    rw [e]
    by_cases c : z = x
    · simp [c]
    · simp [c]
theorem flat_strs : ∀ {l : List Str}, (l.map V.str).all flatV = true
  | [] => rfl
  | x :: r => by rw [List.map_cons, List.all_cons, flat_strs]; rfl
/-- answer, at a depth: gone_through one less deep -/
theorem ok_wans {CP CW : Addr} (D : DfM K CW "answer" "PlainWalk.answer" s_PlainWalk_answer ["self", "name"]) (TW : WCls K CW) (n : Nat) (M_source_of : CalM P w K mg base CX0 CP "source_of" ["self", "name"] 1 (spSourceOf K CP)) (TP : PCls K mg CP) (C_answer_by : Cal P w K mg base CX0 "answer_by" ["end"] 1 (spAnsBy K))
    (M_gone_through : CalM P w K mg base CX0 CW "gone_through" ["self", "name", "source"] (4 * n + 23) (spGone K CP CW n)) : CalM P w K mg base CX0 CW "answer" ["self", "name"] (4 * n + 24) (spWAns K CP CW n) := by
  refine D.cal fun f fd F => F.ok sc_PlainWalk_answer (fun vs H Q E h => ?_) (fun cdv A outer s H vs Q E hr h => ?_)
  · obtain ⟨_, _, _, _, _, _, _, _, _, rfl, _⟩ := h
    rfl
  · obtain ⟨Hb, wa, fr, on, p, prs, op, rs, z, rfl, hw, ok, hz, hn, q⟩ := h
    refine ⟨_, (pss_cons (ps_set (i := 2) sc_PlainWalk_answer.nd rfl (.inl rfl) (pe_mcal M_source_of TP.cl hr (pe_fldU K (pv 0) rfl) (pa_cons (pv 1) pa_nil) (by omega)))
      (pss_cons (ps_if (pt_cmpR op_isNo (pv 2) pe_non (nomark _)) (pss_one (ps_ret (pe_tup (pa_cons pe_str pa_nil)))) pss_nil)
      (pss_cons (ps_if (pt_cmpR (op_eqU K hr.units) (pe_ix (ix_U K) (pv 2) pe_int (fun _ _ => rfl)) pe_str (nomark _)) (pss_one (ps_ret (pe_tup (pa_cons pe_str (pa_cons (pe_ix (ix_U K) (pv 2) pe_int (fun _ _ => rfl)) pa_nil))))) pss_nil)
      (pss_cons (ps_if (pt_cmpR (op_inU K) (pv 1) (pe_fldU K (pv 0) rfl) (by with_unfolding_all rfl)) (pss_one (ps_ret pe_non)) pss_nil)
      (pss_cons (ps_if (pt_cmp (pc_dnotin (hu_of hr) (pv 1) (pe_fldU K (pv 0) rfl))) (pss_cons (ps_expr (pe_bmU K PySem.F.plainAttrs_list PySem.F.slot_list_append PySem.F.type_list_append mt_append (pe_fldU K (pv 0) rfl) (pa_cons (pv 1) pa_nil)))
      (pss_cons (ps_set (i := 3) sc_PlainWalk_answer.nd rfl (.inl rfl) (pe_mcal M_gone_through TW.cl hr (pv 0) (pa_cons (pv 1) (pa_cons (pv 2) pa_nil)) (by omega)))
      (pss_cons (ps_expr (pe_bm0U K PySem.F.plainAttrs_list PySem.F.slot_list_pop PySem.F.type_list_pop mt_pop (pe_fldU K (pv 0) rfl)))
      (pss_one (ps_dput (hu_of hr) (pe_fldU K (pv 0) rfl) (pv 1) (pv 3) rfl))))) pss_nil)
      (pss_one (ps_ret (pe_cal C_answer_by hr (by rfl) (pa_cons (pe_ix (ix_U K) (pe_dget (hu_of hr) (pe_fldU K (pv 0) rfl) (pv 1) (fun _ _ => rfl)) pe_int (fun _ _ => rfl)) pa_nil) (by omega))))))))), ?_⟩
    obtain ⟨dx, kvs, h1, h2, h3, h4, h5, h6, h7, h8⟩ := id hw
    have hstep : ∀ (inner : List Str → AskF), (n = 0 → ∀ s, lookP prs z = some s → s.k ≠ "leaf" → z ∉ op → rs.lookup z = none → False) → (∀ m, n = m + 1 → inner = pAns prs m) → pAns prs n op rs z = ansStep prs inner op rs z := by
      intro inner h0 hs
      cases n with
      | succ m => rw [hs m rfl]; rfl
      | zero =>
        show ansStep prs _ op rs z = _
        unfold ansStep
        cases hl : lookP prs z with
        | none => rfl
        | some s =>
          dsimp only
          by_cases hk : s.k = "leaf"
          · rw [if_pos hk, if_pos hk]
          · rw [if_neg hk, if_neg hk]
            by_cases ho : z ∈ op
            · rw [if_pos ho, if_pos ho]
            · rw [if_neg ho, if_neg ho]
              cases hr : rs.lookup z with
              | some r => rfl
              | none => exact (h0 rfl s hl hk ho hr).elim
    rw [hstep (pAns prs (n - 1)) (fun h0 s hl hk ho hr => by
      have h1 := freeN_open (mem_names (lookP_mem hl)) ho
      omega) (fun m hm => by rw [hm, Nat.add_sub_cancel])] at q
    unfold ansStep at q
    walk_at "rd"
    refine i_fk h5 TW.cl TW.n_pr rfl ?_
    obtain ⟨dp, tp, kp2, ep, ep2, ep3⟩ := id hw.pr
    refine i_mk ep rfl ?_
    walk_at "rd"
    refine ⟨p, prs, z, rfl, hw.pr, ok.pr, fun v hv => ?_⟩
    cases hl : lookP prs z with
    | none =>
      rw [hl] at q hv
      have ev : v = .non := hv
      subst ev
      walk_at "rd"
      refine i_new_t (by show 1 ≤ sizeLine; decide) fun t1 H1 n1 s1 e1 => ?_
      exact q H1 _ (.same s1) (hw.same s1) (dt_tup (.inl (.inl e1)) (dts_cons dt_str dts_nil))
    | some s =>
      rw [hl] at q hv
      dsimp only at q
      have hsok := ok.pr.sr _ (lookP_mem hl)
      obtain ⟨a, x, y, rfl, ha, hx, hy⟩ := Dt.pair (show Dt K H (.tuple [.str s.k, s.x]) v from hv)
      have ex := hx.str
      subst ex
      walk_at "rd"
      refine i_ix_t ha (atI_nat (j := 0) rfl) ?_
      walk_at "rd"
      rw [decS]
      by_cases hk : s.k = "leaf"
      · rw [decide_eq_true (p := s.k = "leaf") hk]
        rw [if_pos hk] at q
        walk_at "rd"
        refine i_ix_t ha (atI_nat (j := 1) rfl) ?_
        walk_at "rd"
        refine i_new_t (by show 2 ≤ sizeLine; decide) fun t1 H1 n1 s1 e1 => ?_
        exact q H1 _ (.same s1) (hw.same s1) (dt_tup (.inl (.inl e1)) (dts_cons dt_str (dts_cons (hy.mono (.same s1)) dts_nil)))
      · rw [decide_eq_false (p := s.k = "leaf") hk]
        rw [if_neg hk] at q
        walk_at "rd"
        refine i_fk h5 TW.cl TW.n_on rfl ?_
        walk_at "rd"
        refine i_in_l (.inl (.inl h8)) rfl flat_strs ?_
        rw [inV_strs]
        by_cases ho : z ∈ op
        · rw [decide_eq_true ho]
          rw [if_pos ho] at q
          walk_at "rd"
          exact q H _ (.refl _ _) hw dt_non
        · rw [decide_eq_false ho]
          rw [if_neg ho] at q
          walk_at "rd"
          refine i_fk h5 TW.cl TW.n_fr rfl ?_
          cases hlr : rs.lookup z with
          | some r =>
            rw [hlr] at q
            dsimp only at q
            have hlr2 : (rs.map rp).lookup z = some r.py := by rw [lookup_rp, hlr]; rfl
            obtain ⟨v2, ev2, dv2⟩ := valV_str_pos h7 hlr2
            refine i_dnk h6 ?_
            rw [ev2]
            walk_at "rd"
            refine i_fk h5 TW.cl TW.n_fr rfl ?_
            walk_at "rd"
            refine i_dgk h6 ev2 ?_
            obtain ⟨ra, r1, r2, rfl, hra, hr1, hr2⟩ := Dt.pair (show Dt K H (.tuple [.tuple (r.1.map Asked.py), r.2.py]) v2 from dv2)
            walk_at "rd"
            refine i_ix_t hra (atI_nat (j := 1) rfl) ?_
            walk_at "rd"
            exact ⟨r2, r.2, rfl, hr2, fun H1 u s1 hu => q H1 u (.same s1) (hw.same s1) hu⟩
          | none =>
            rw [hlr] at q
            dsimp only at q
            have hlr2 : (rs.map rp).lookup z = none := by rw [lookup_rp, hlr]; rfl
            refine i_dnk h6 ?_
            rw [valV_str_neg h7 hlr2]
            walk_at "rd"
            refine i_fk h5 TW.cl TW.n_on rfl ?_
            refine i_tyl h8 ?_
            walk_at "rd"
            have hop := ok.sz
            refine i_append h8 (szlt (by rw [List.length_map]; omega)) fun H1 b1 e1 => ?_
            have st1 : Stay H H1 := .but b1 h8
            have f1 : Fr (WS fr on) H H1 := .bt b1 (by simp)
            have h51 := b1.ne h8 h5 (fun z => nomatch z)
            have h61 := b1.ne h8 h6 (fun z => nomatch z)
            have hzn := mem_names (lookP_mem hl)
            have hw1 : WAt K CP CW Hb H1 wa fr on p prs (op ++ [z]) rs := by
              refine ⟨dx, kvs, h1, Fr.same_of h2 (by
                intro c hc
                rcases List.mem_cons.mp hc with rfl | hc
                · exact h3
                rcases List.mem_cons.mp hc with rfl | hc
                · exact h4
                cases hc) f1, h3, h4, h51, h61, h7.mono st1, ?_⟩
              rw [e1, List.map_append]
              rfl
            have ok1 := ok.open_ hzn ho
            have hfree := freeN_open hzn ho
            walk_at "rd"
            refine i_mk h51 rfl ?_
            walk_at "rd"
            refine ⟨Hb, wa, fr, on, p, prs, op ++ [z], rs, z, .ref a, s, rfl, hw1, ok1, hz, by omega, hv.mono st1, hsok, hk, fun H2 v2 f2 hw2 hv2 => ?_⟩
            have st2 := hw1.stay f2
            obtain ⟨g1, g2⟩ := goneBy_ok ok.pr (pAns_ok ok.pr (n - 1) (op ++ [z])) hz hsok hk ok.hr
            have ok2 := ok1.kept g2
            obtain ⟨t, et, ht⟩ := g2.more
            have hzn2 : z ∉ ((goneBy prs (pAns prs (n - 1) (op ++ [z])) z s rs).2).map (·.1) := by
              rw [et, List.map_append]
              intro h
              rcases List.mem_append.mp h with h | h
              · exact lookup_none_iff hlr h
              · obtain ⟨p, hp2, e⟩ := List.mem_map.mp h
                exact (ht p hp2).2 (e ▸ List.mem_append_right _ (List.mem_singleton_self _))
            generalize (goneBy prs (pAns prs (n - 1) (op ++ [z])) z s rs).2 = rs2 at q hw2 ok2 hzn2
            generalize (goneBy prs (pAns prs (n - 1) (op ++ [z])) z s rs).1 = run at q hv2 g1
            obtain ⟨dx2, kvs2, k1, k2, k3, k4, k5, k6, k7, k8⟩ := id hw2
            walk_at "rd"
            refine i_fk k5 TW.cl TW.n_on rfl ?_
            rw [List.map_append] at k8
            refine i_tyl k8 ?_
            refine i_pop k8 fun H3 b3 e3 => ?_
            have st3 : Stay H2 H3 := .but b3 k8
            have k53 := b3.ne k8 k5 (fun z => nomatch z)
            have k63 := b3.ne k8 k6 (fun z => nomatch z)
            walk_at "rd"
            refine i_fk k53 TW.cl TW.n_fr rfl ?_
            walk_at "rd"
            have hnone : valV kvs2 (Sum.inr z : Key) = none := by
              refine valV_str_neg k7 ?_
              cases hq : (rs2.map rp).lookup z with
              | none => rfl
              | some d => exact absurd (keys_rp rs2 ▸ List.mem_map_of_mem (f := (·.1)) (lookup_some_mem hq)) hzn2
            refine i_dpk k63 (szlt (by have := k7.len; rw [List.length_map] at this; have := ok2.len; omega)) fun H4 b4 e4 => ?_
            rw [putK_new _ hnone] at e4
            have st4 : Stay H3 H4 := .butD b4 k63
            have k54 := b4.ne k63 k53 (fun z => nomatch z)
            have st24 : Stay H2 H4 := st3.trans st4
            have f24 : Fr (WS fr on) H2 H4 := (Fr.bt b3 (by simp)).trans (.bt b4 (by simp))
            have hw4 : WAt K CP CW Hb H4 wa fr on p prs op (rs2 ++ [(z, run)]) := by
              refine ⟨dx2, _, k1, Fr.same_of k2 (by
                intro c hc
                rcases List.mem_cons.mp hc with rfl | hc
                · exact k3
                rcases List.mem_cons.mp hc with rfl | hc
                · exact k4
                cases hc) f24, k3, k4, k54, e4, ?_, b4.ne k63 e3 (fun z => nomatch z)⟩
              rw [List.map_append]
              exact (k7.mono st24).snoc (hv2.mono st24)
            have hlk : (rs2 ++ [(z, run)]).lookup z = some run := lookup_append_new hzn2
            obtain ⟨v5, ev5, dv5⟩ : ∃ v, valV (kvs2 ++ [((Sum.inr z : Key), v2)]) (Sum.inr z : Key) = some v ∧ Dt K H4 run.py v := by
              refine valV_str_pos (b := (rs2 ++ [(z, run)]).map rp) ?_ (by rw [lookup_rp, hlk]; rfl)
              rw [List.map_append]
              exact (k7.mono st24).snoc (hv2.mono st24)
            walk_at "rd"
            refine i_fk k54 TW.cl TW.n_fr rfl ?_
            walk_at "rd"
            refine i_dgk e4 ev5 ?_
            obtain ⟨ra, r1, r2, rfl, hra, hr1, hr2⟩ := Dt.pair (show Dt K H4 (.tuple [.tuple (run.1.map Asked.py), run.2.py]) v5 from dv5)
            walk_at "rd"
            refine i_ix_t hra (atI_nat (j := 1) rfl) ?_
            walk_at "rd"
            exact ⟨r2, run.2, rfl, hr2, fun H5 u s5 hu => q H5 u (((f1.trans f2).trans f24).trans (.same s5)) (hw4.same s5) hu⟩
/-- the walk at all depths -/
theorem walk_turns {CP CW CM : Addr} (Dan : DfM K CW "answer" "PlainWalk.answer" s_PlainWalk_answer ["self", "name"]) (Das : DfM K CW "asked" "PlainWalk.asked" s_PlainWalk_asked ["self", "name"]) (Dgo : DfM K CW "gone_through" "PlainWalk.gone_through" s_PlainWalk_gone_through ["self", "name", "source"]) (Dru : DfM K CW "run_by" "PlainWalk.run_by" s_PlainWalk_run_by ["self", "name", "rule", "asks"])
    (TW : WCls K CW) (TP : PCls K mg CP) (TM : MCls K CM) (M_source_of : CalM P w K mg base CX0 CP "source_of" ["self", "name"] 1 (spSourceOf K CP)) (C_answer_by : Cal P w K mg base CX0 "answer_by" ["end"] 1 (spAnsBy K)) (C_is_rule : Cal P w K mg base CX0 "is_rule" ["value"] 16 (spIsRule K))
    (M_Machine : CalI P w K mg base CX0 CM "Machine" ["self", "rule", "own"] 19 (spMacInit K CM)) (M_now : CalM P w K mg base CX0 CM "now" ["self"] 1 (spNow K CM)) (M_asked : CalM P w K mg base CX0 CM "asked" ["self"] 1 (spAsked K CM))
    (M_answer : CalM P w K mg base CX0 CM "answer" ["self", "tree"] 19 (spAnswer K CM)) (M_looked_up : CalM P w K mg base CX0 CP "looked_up" ["self", "ask"] 2 (spLookedUp K CP)) :
    ∀ n, CalM P w K mg base CX0 CW "answer" ["self", "name"] (4 * n + 24) (spWAns K CP CW n)
  | 0 => ok_wans Dan TW 0 M_source_of TP C_answer_by (by
      refine Dgo.cal fun f fd F => fn_never ?_
      rintro vs H Q E ⟨_, _, _, _, _, _, _, _, _, _, _, _, _, _, _, h, _⟩
      omega)
  | n + 1 => by
    have h := walk_turns Dan Das Dgo Dru TW TP TM M_source_of C_answer_by C_is_rule M_Machine M_now M_asked M_answer M_looked_up n
    have h1 := ok_wasked Das TW n h
    have h2 := ok_run_by Dru TW TP TM n h1 C_is_rule M_Machine M_now M_asked M_answer M_looked_up
    have h3 := ok_gone Dgo TW n h1 h2
    exact ok_wans Dan TW (n + 1) M_source_of TP C_answer_by h3
/-! ### a walk is made -/
def spWInit (K : PySem.W.Frag) (CW : Addr) : Sp := fun vs H Q _ => ∃ (wa dx p : Addr), vs = [.ref wa, .ref p] ∧ H wa = some (.ins CW dx []) ∧
  ∀ H' fr on, (∀ b o, H b = some o → b ≠ wa → H' b = some o) → H fr = none → H on = none → H' wa = some (.ins CW dx (wfs p fr on)) → H' fr = some (.dK []) → H' on = some (.lst []) → Q .non H'
theorem ok_winit {CW : Addr} (D : DfI K mg CW "PlainWalk" "PlainWalk.__init__" s_PlainWalk___init__ ["self", "project"]) (TW : WCls K CW) : CalI P w K mg base CX0 CW "PlainWalk" ["self", "project"] 1 (spWInit K CW) := by
  refine D.cal fun f fd F => F.ok sc_PlainWalk___init__ (fun vs H Q E h => ?_) (fun cdv A outer s H vs Q E hr h => ?_)
  · obtain ⟨_, _, _, rfl, _⟩ := h
    rfl
  · obtain ⟨wa, dx, p, rfl, e, q⟩ := h
    refine ⟨_, (pss_cons (ps_fldU K (pv 0) (pv 1) rfl)
      (pss_cons (ps_fldU K (pv 0) pe_dnewK rfl)
      (pss_one (ps_fldU K (pv 0) (pe_lst pa_nil) rfl)))), ?_⟩
    walk_at "rd"
    refine i_sk e TW.cl TW.n_pr (by show 0 < 1000; decide) fun H1 b1 e1 => ?_
    walk_at "rd"
    refine i_dnew fun fr H2 n2 s2 e2 => ?_
    walk_at "rd"
    refine i_sk (s2 _ _ e1) TW.cl TW.n_fr (by show 1 < 1000; decide) fun H3 b3 e3 => ?_
    walk_at "rd"
    refine i_new_l (Nat.zero_le _) fun on H4 n4 s4 e4 => ?_
    walk_at "rd"
    refine i_sk (s4 _ _ e3) TW.cl TW.n_on (by show 2 < 1000; decide) fun H5 b5 e5 => ?_
    have nfr : fr ≠ wa := fun h => by rw [h] at n2; rw [n2] at e1; cases e1
    have non_ : on ≠ wa := fun h => by rw [h] at n4; rw [n4] at e3; cases e3
    have back : ∀ (a : Addr), a ≠ wa → H1 a = none → H a = none := fun a ha h => by
      cases h2 : H a with
      | none => rfl
      | some o => have := b1 _ _ ha h2; rw [h] at this; cases this
    have hfr : H fr = none := back fr nfr n2
    have hon : H on = none := back on non_ (by
      cases h2 : H1 on with
      | none => rfl
      | some o => have := b3 _ _ non_ (s2 _ _ h2); rw [n4] at this; cases this)
    exact q H5 fr on (fun b o h n => b5 _ _ n (s4 _ _ (b3 _ _ n (s2 _ _ (b1 _ _ n h))))) hfr hon e5 (b5 _ _ nfr (s4 _ _ (b3 _ _ nfr e2))) (b5 _ _ non_ e4)
end
end Aw

/-! tuple(d): the keys of a dict -/
namespace Aw
open PySem PySem.Spec PyProof.Rows PySem.W
section
variable {prog : Program} {w : World} {A : Around} {E : Value → Shared → Prop} {s : Shared} {T : String} {r d : Addr} {n : Nat} {PP : Nat → Value → Prop} {OK : Heap → Prop}
/-- what an iterable of the library's kind comes to, in one list -/
theorem gathered {Q : List Value → Shared → Prop} (K : KdlSrc prog w T r d n PP OK) (hh : A.handled = none) (hok : OK s.heap)
    (hQ : ∀ h' tk acc, (∀ b o, s.heap.get? b = some o → h'.get? b = some o) → ItemsOf PP acc n → Q acc.toList { s with heap := h', toks := tk }) (hn : n ≤ sizeLine) : wpAny (model prog w) A (collect (.ref r)) Q E s := by
  unfold collect
  refine wpAny_bind (wpAny_runValue (codeAny_builtin F.entry_proto_collect ?_))
  rw [Around.under_plainId F.plain_proto_collect _]
  show wpAny _ A.in1 (newList [] >>= fun l => again (.builtin "list.__iadd__" ⟨[l, .ref r], []⟩)) _ _ s
  refine wpAny_bind (wpAny_newObj_type ?_)
  refine wpAny_pure ⟨plainId_quiet F.plain_list_iadd _, codeAny_builtin F.entry_list_iadd ?_⟩
  rw [Around.under_plainId F.plain_list_iadd _]
  have hS : (s.heap.push { cls := .type "list", data := .seq #[] }).get? s.heap.objs.size = some { cls := .type "list", data := .seq #[] } := Heap.get?_push_size _ rfl
  have hlt := K.there _ hok
  show wpAny _ A.in1 (Builtin.List.listExtendWith (.ref s.heap.objs.size) (.ref r) (.ref s.heap.objs.size)) _ _ _
  refine kdl_extend (R := fun r s' => match r with
    | .ok (.ret v) => wpAny (model prog w) A (match v with
      | .ref a => do
        match (← load a).data with
        | .seq xs _ => pure xs.toList
        | _ => unsupported "internal:collect"
      | _ => unsupported "internal:collect") Q E s'
    | .ok _ => False
    | .error e => E e s') (A := A) (s := { s with heap := s.heap.push { cls := .type "list", data := .seq #[] } }) K hh (K.keep _ _ hok fun b _ o e => Heap.get?_push_of_some _ e) s.heap.objs.size (Nat.ne_of_gt hlt.1) (Nat.ne_of_gt hlt.2) (.ref s.heap.objs.size) 0 hS (fun h' tk acc c' hk hS' hacc => ?_) hn
  show wpAny _ A (load s.heap.objs.size >>= _) _ _ _
  refine wpAny_bind (wpAny_load hS' ?_)
  exact wpAny_pure (hQ h' tk acc (fun b o e => hk b o (Nat.ne_of_lt (Heap.lt_size e)) (Heap.get?_push_of_some _ e)) hacc)
theorem tupleNew {Tn : String} (K : KdlSrc prog w Tn r d n PP OK) (hn : n ≤ sizeLine) :
    MeetsIn prog w (Builtin.«tuple.__new__» ⟨[.type "tuple", .ref r], []⟩)
      (fun A R s => A.handled = none ∧ OK s.heap ∧ ∀ (h' : Heap) (tk : Nat) (acc : Array Value), (∀ b o, s.heap.get? b = some o → h'.get? b = some o) → ItemsOf PP acc n →
        R (.ok (.ret (.ref h'.objs.size))) { s with heap := h'.push { cls := .type "tuple", data := .seq acc }, toks := tk }) :=
  .of_wp fun A R s h => by
    obtain ⟨hh, hok, h⟩ := h
    have hsub := sub_tuple_self
    have hinit := init_tuple_lookup
    have hmh := madeHere_tuple
    have hT : s.TypeIs (.ref r) Tn := K.type s hok
    have hnt := K.notTuple
    have hh1 : A.in1.handled = none := hh
    have e : (decide (Value.type Tn = Value.type "tuple")) = false := by
      rw [beq_eq_false_iff_ne] at hnt
      exact decide_eq_false hnt
    wp_walk using wpAny_typeOf hT, gathered (A := A.in1) K hh1 hok (hn := hn)
    intro h' tk acc hk hacc
    show wpAny _ _ (Builtin.Tuple.tupleExact acc.toList.toArray >>= fun v => ret v) _ _ _
    unfold Builtin.Tuple.tupleExact
    refine wpAny_bind (wpAny_newObj_type ?_ (show acc.toList.toArray.size ≤ sizeLine by simp only [Array.toArray_toList]; rw [hacc.1]; exact hn))
    refine wpAny_pure ⟨_, rfl, ?_⟩
    have e2 : acc.toList.toArray = acc := by simp
    rw [e2]
    exact h h' tk acc hk hacc
theorem call_tup_of {Tn : String} {Q : Value → Shared → Prop} (K : KdlSrc prog w Tn r d n PP OK) (hh : A.handled = none) (hok : OK s.heap) (hn : n ≤ sizeLine)
    (h : ∀ (h' : Heap) (tk : Nat) (acc : Array Value), (∀ b o, s.heap.get? b = some o → h'.get? b = some o) → ItemsOf PP acc n → Q (.ref h'.objs.size) { s with heap := h'.push { cls := .type "tuple", data := .seq acc }, toks := tk }) :
    wpAny (model prog w) A (call (.type "tuple") [.ref r]) Q E s :=
  callType_newIn F.called_tuple (by decide) (F.typeCall_tuple_1 _) (F.newCall_tuple_1 _) (fun obj => F.args_object_init_2 obj _) F.entry_tuple_new
    (tupleNew K hn) ⟨hh, hok, fun h' tk acc hk hacc => ⟨⟨_, Heap.get?_push_size _ rfl, rfl⟩, h h' tk acc hk hacc⟩⟩
end
section
open L2
variable {X : Cx}
def rTupD : List V → Hp → VK → Prop := fun xs H Q => ∃ (a : Addr) (kvs : List (L2.Key × V)), xs = [.ref a] ∧ H a = some (.dK kvs) ∧ ∀ p, H p = none → Q (.ref p) (upd H p (.tup (kvs.map fun kv => kV kv.1)))
theorem call_tupD (hcalm : X.calm = true) : CallR X (.type "tuple") rTupD := by
  intro pins s σ H xs us Q I r q
  obtain ⟨a, kvs, ex, hd, q⟩ := q
  subst ex
  obtain ⟨u, eu, rx⟩ := vals1 r
  subst eu
  cases rx
  obtain ⟨z, lo, vs, rel, dd⟩ := dk_rd I.hok (.inl hd)
  obtain ⟨ep, hat⟩ := dd.dictAt
  have ek : (kvs.map fun kv => kV kv.1) = vs.map fun p => kV p.1 := by
    have e := congrArg (List.map kV) rel.keys
    rw [List.map_map, List.map_map] at e
    exact e
  refine call_tup_of (PySem.W.kdl_dict (knd := mixKind X.prog X.w) (kvs := vs) (ep := ep) lo) (I.ok.hd hcalm) hat (by rw [← rel.length]; exact z) fun h' tk acc hk hacc => ?_
  have hv : Vals (vs.map fun p => kV p.1) acc.toList := keys_at (by rw [Array.length_toList]; exact hacc.1) fun j v e => hacc.2 j v (by rw [← Array.getElem?_toList]; exact e)
  have I1 : Inv X pins σ H { s with heap := h', toks := tk } := I.kept (t' := tk) hk
  have hl : (kvs.map fun kv => kV kv.1).length ≤ sizeLine := by rw [List.length_map]; exact z
  have ea : acc = acc.toList.toArray := by simp
  have I2 : Inv X pins σ (upd H h'.objs.size (.tup (kvs.map fun kv => kV kv.1))) { s with heap := h'.push { cls := .type "tuple", data := .seq acc }, toks := tk } :=
    I1.laid (t' := tk) (fun b o e => Heap.get?_push_of_some _ e) (Nat.le_refl _) (show ObjOk X.prog X.w _ _ _ (.tup (kvs.map fun kv => kV kv.1)) from ⟨hl, acc.toList, by rw [ek]; exact hv, by rw [Array.toArray_toList]; exact IsTup.new _ _⟩)
  exact ⟨.ref h'.objs.size, _, I2, rfl, q _ (I1.hok.fresh (Nat.le_refl _))⟩
theorem i_tupD {H : Hp} {Q : VK} {a : Addr} {kvs : List (L2.Key × V)} (e : H a = some (.dK kvs)) (q : ∀ p H', H p = none → Same H H' → H' p = some (.tup (kvs.map fun kv => kV kv.1)) → Q (.ref p) H') : rTupD [.ref a] H Q := ⟨a, kvs, rfl, e, fun p hp => q p _ hp (same_new hp _) upd_same⟩
end
end Aw

namespace Aw
open PySem PySem.Spec PyProof.Rows L2

local macro_rules | `(tactic| walk_at "rd1") => `(tactic| first
  | ((with_reducible apply i_var); exact rfl)
  | with_reducible refine i_c ?_
  | with_reducible refine i_op ?_
  | with_reducible refine i_un ?_
  | with_reducible refine i_test ?_
  | with_reducible refine i_tB ?_
  | with_reducible refine i_bl ?_
  | with_reducible refine i_and ?_
  | with_reducible refine i_or ?_
  | with_reducible refine i_not ?_
  | with_reducible refine i_andV ?_
  | with_reducible refine i_orV ?_
  | with_reducible refine i_notV ?_
  | with_reducible refine i_if ?_
  | with_reducible refine i_chain ?_
  | with_reducible refine i_nil ?_
  | with_reducible refine i_cons ?_
  | with_reducible refine i_tup ?_
  | with_reducible refine i_lst ?_
  | with_reducible refine i_cb ?_
  | with_reducible refine i_call ?_
  | with_reducible refine i_bm ?_
  | with_reducible refine i_m1 ?_
  | with_reducible refine i_m0 ?_
  | with_reducible refine i_exstr ?_
  | with_reducible refine i_sl ?_
  | with_reducible refine i_nopart ?_
  | with_reducible refine i_part ?_
  | with_reducible refine i_int ?_
  | with_reducible refine i_seq ?_
  | with_reducible refine i_next ?_
  | with_reducible refine i_asg ?_
  | with_reducible refine i_gname ?_
  | with_reducible refine i_ret ?_
  | with_reducible refine i_retN ?_
  | with_reducible refine i_drop ?_
  | with_reducible refine i_ifS ?_
  | with_reducible refine i_break ?_
  | with_reducible refine i_cont ?_
  | ((with_reducible apply i_aug); exact rfl)
  | with_reducible refine i_add_i ?_
  | with_reducible refine i_sub ?_
  | with_reducible refine i_neg ?_
  | with_reducible refine i_ipadd_i ?_
  | with_reducible refine i_ip ?_
  | with_reducible refine i_lt ?_
  | with_reducible refine i_le ?_
  | with_reducible refine i_gt ?_
  | with_reducible refine i_ge ?_
  | with_reducible refine i_lt_s ?_
  | with_reducible refine i_le_s ?_
  | with_reducible refine i_gt_s ?_
  | with_reducible refine i_ge_s ?_
  | with_reducible refine i_isN ?_
  | with_reducible refine i_notN ?_
  | with_reducible refine i_in_c ?_
  | with_reducible refine i_nin_c ?_
  | with_reducible refine i_gsub ?_
  | with_reducible refine i_gcons ?_
  | with_reducible refine i_gnil ?_
  | with_reducible refine i_iList ?_
  | with_reducible refine i_iTup ?_
  | with_reducible refine i_iStr ?_
  | with_reducible refine i_iRng1 ?_
  | with_reducible refine i_lc ?_
  | with_reducible refine i_for ?_
  | with_reducible refine i_yes ?_
  | with_reducible refine i_repl ?_
  | with_reducible refine i_meth ?_
  | with_reducible refine i_fld ?_
  | with_reducible refine i_sfld ?_
  | with_reducible refine i_din ?_
  | with_reducible refine i_dnin ?_
  | with_reducible refine i_dget ?_
  | with_reducible refine i_dput ?_
  | with_reducible refine i_joined ?_
  | with_reducible refine i_callS ?_
  | with_reducible refine i_xf ?_
  | with_reducible refine i_revL ?_
  | with_reducible refine i_items ?_
  | with_reducible refine i_stepL ?_
  | with_reducible refine i_make ?_
  | with_reducible refine i_fmt ?_
  | with_reducible refine i_jcons ?_
  | with_reducible refine i_jnil ?_
  | with_reducible refine i_iEnum ?_
  | with_reducible refine i_faug ?_
  | with_reducible refine i_dget2 ?_
  | with_reducible refine i_kin ?_
  | with_reducible refine i_kix ?_
  | with_reducible refine i_bm0 ?_
  | with_reducible refine i_meth ?_
  | with_reducible refine iteT ?_
  | with_reducible refine iteF ?_
  | with_reducible refine iteNT ?_
  | with_reducible refine iteNF ?_
  | ((with_reducible refine i_len_s ?_ ?_); (first | assumption | exact szl (by assumption)))
  | ((with_reducible refine i_sl_s ?_ ?_); (first | assumption | exact szl (by assumption)))
  | with_reducible refine i_int_b ?_
  | with_reducible refine i_abs ?_
  | with_reducible refine i_min2 ?_
  | with_reducible refine i_eq rfl ?_
  | with_reducible refine i_ne rfl ?_
  | with_reducible refine iteDR ?_
  | with_reducible refine iteRN ?_
  | with_reducible refine iteI1 ?_
  | with_reducible refine iteI2 ?_
  | with_reducible refine iteI3 ?_
  | with_reducible refine iteI4 ?_
  | with_reducible refine iteSN ?_
  | with_reducible refine iteNDR ?_
  | with_reducible refine iteNRN ?_
  | with_reducible refine iteNSN ?_
  | with_reducible refine iteST (by first | rfl | decide) ?_
  | with_reducible refine iteSF (by decide) ?_
  | with_reducible refine iteNST (by first | rfl | decide) ?_
  | with_reducible refine iteNSF (by decide) ?_)
local macro_rules | `(tactic| walk_at "rd") => `(tactic| repeat walk_at "rd1")

abbrev s_look_at_asked_name : Stmt := topS 45
theorem sc_look_at_asked_name : FnScope ["name"] ["name"] (defScope s_look_at_asked_name) := ⟨rfl, rfl, rfl, by decide +kernel, rfl, by decide +kernel, by decide +kernel⟩
abbrev s_plain_walk : Stmt := topS 48
theorem sc_plain_walk : FnScope ["project", "name", "walk"] ["project", "name"] (defScope s_plain_walk) := ⟨rfl, rfl, rfl, by decide +kernel, rfl, by decide +kernel, by decide +kernel⟩
abbrev s_full_run : Stmt := topS 50
theorem sc_full_run : FnScope ["project", "name", "walk"] ["project", "name"] (defScope s_full_run) := ⟨rfl, rfl, rfl, by decide +kernel, rfl, by decide +kernel, by decide +kernel⟩
abbrev s_met_by : Stmt := topS 51
theorem sc_met_by : FnScope ["project", "name"] ["project", "name"] (defScope s_met_by) := ⟨rfl, rfl, rfl, by decide +kernel, rfl, by decide +kernel, by decide +kernel⟩
abbrev s_paper_of : Stmt := topS 53
theorem sc_paper_of : FnScope ["project", "name", "steps", "met", "asks", "end"] ["project", "name"] (defScope s_paper_of) := ⟨rfl, rfl, rfl, by decide +kernel, rfl, by decide +kernel, by decide +kernel⟩
section
variable {P : Program} {w : World} {K : PySem.W.Frag} {mg : Str → Option Value} {base : Heap}
def spLook : Sp := fun vs H Q _ => ∃ z : Str, vs = [.str z] ∧ nameOk z = true ∧ ∀ H', Same H H' → Q .non H'
theorem ok_look (D : Df K mg "look_at_asked_name" "look_at_asked_name" s_look_at_asked_name ["name"]) (C_is_name : Cal P w K mg base CX0 "is_name" ["value"] 1 (spIsNameD K)) : Cal P w K mg base CX0 "look_at_asked_name" ["name"] 2 spLook := by
  refine D.cal fun f fd F => F.ok sc_look_at_asked_name (fun vs H Q E h => ?_) (fun cdv A outer s H vs Q E hr h => ?_)
  · obtain ⟨_, rfl, _⟩ := h
    rfl
  · obtain ⟨z, rfl, hz, q⟩ := h
    refine ⟨_, (pss_one (ps_if (pt_not (pt_val (pe_cal C_is_name hr (by rfl) (pa_cons (pv 0) pa_nil)))) (pss_one ps_never) pss_nil)), ?_⟩
    walk_at "rd"
    refine ⟨.str z, .str z, rfl, dt_str, (tree_lim (name_tree hz)).1, fun H1 s1 => ?_⟩
    rw [show nameD (.str z) = true from hz]
    walk_at "rd"
    exact q H1 s1
def spPlainWalk (K : PySem.W.Frag) (CP CW : Addr) : Sp := fun vs H Q _ => ∃ (p : Addr) (prs : Prs) (z : Str), vs = [.ref p, .str z] ∧ IsPr K CP H p prs ∧ PrsOk prs ∧ prs.length ≤ 50 ∧ nameOk z = true ∧ ∀ H' wa fr on, Same H H' → WAt K CP CW H H' wa fr on p prs [] (pTop prs z).2 → Q (.ref wa) H'
theorem ok_plain_walk {CP CW : Addr} (D : Df K mg "plain_walk" "plain_walk" s_plain_walk ["project", "name"]) (TW : WCls K CW) (C_look_at_asked_name : Cal P w K mg base CX0 "look_at_asked_name" ["name"] 2 spLook) (M_PlainWalk : CalI P w K mg base CX0 CW "PlainWalk" ["self", "project"] 1 (spWInit K CW))
    (M_answer : CalM P w K mg base CX0 CW "answer" ["self", "name"] (4 * 50 + 24) (spWAns K CP CW 50)) : Cal P w K mg base CX0 "plain_walk" ["project", "name"] 225 (spPlainWalk K CP CW) := by
  refine D.cal fun f fd F => F.ok sc_plain_walk (fun vs H Q E h => ?_) (fun cdv A outer s H vs Q E hr h => ?_)
  · obtain ⟨_, _, _, rfl, _⟩ := h
    rfl
  · obtain ⟨p, prs, z, rfl, hp, ok, h50, hz, q⟩ := h
    refine ⟨_, (pss_cons (ps_expr (pe_cal C_look_at_asked_name hr (by rfl) (pa_cons (pv 1) pa_nil)))
      (pss_cons (ps_set (i := 2) sc_plain_walk.nd rfl (.inl rfl) (pe_ical M_PlainWalk hr (by rfl) (pa_cons (pv 0) pa_nil)))
      (pss_cons (ps_expr (pe_mcal M_answer TW.cl hr (pv 2) (pa_cons (pv 1) pa_nil)))
      (pss_one (ps_ret (pv 2)))))), ?_⟩
    walk_at "rd"
    refine ⟨z, rfl, hz, fun H1 s1 => ?_⟩
    walk_at "rd"
    refine i_mko fun wa dx H2 nw s2 e2 => ?_
    refine ⟨wa, dx, p, rfl, e2, fun H3 fr on k3 nf no e3 ef eo => ⟨rfl, ?_⟩⟩
    have nw0 : H wa = none := none_back s1 nw
    have s12 := s1.trans s2
    have s03 : Same H H3 := fun b o e => k3 b o (s12 _ _ e) (ne_of_none e nw0)
    have hw3 : WAt K CP CW H H3 wa fr on p prs [] [] := ⟨dx, [], hp, s03, none_back s12 nf, none_back s12 no, e3, ef, trivial, eo⟩
    walk_at "rd"
    refine i_mk e3 rfl ?_
    walk_at "rd"
    have hln := h50
    have hfree : freeN prs [] ≤ 50 := by
      have h1 : freeN prs [] ≤ (names prs).length := List.length_filter_le _ _
      unfold names at h1
      rw [List.length_map] at h1
      omega
    refine ⟨H, wa, fr, on, p, prs, [], [], z, rfl, hw3, ⟨ok, nil_ok, fun p h => (List.not_mem_nil h).elim, by show 0 + _ ≤ 60; omega⟩, hz, hfree, fun H4 v f4 hw4 hv => ?_⟩
    walk_at "rd"
    obtain ⟨_, _, _, s4, _⟩ := id hw4
    exact q H4 wa fr on s4 hw4
def spFullRun (K : PySem.W.Frag) (CP : Addr) : Sp := fun vs H Q _ => ∃ (p : Addr) (prs : Prs) (z : Str), vs = [.ref p, .str z] ∧ IsPr K CP H p prs ∧ PrsOk prs ∧ prs.length ≤ 50 ∧ Thing prs z ∧ ∀ H' v, Same H H' → Dt K H' (fullRun prs z).py v → Q v H'
theorem ok_full_run {CP CW : Addr} (D : Df K mg "full_run" "full_run" s_full_run ["project", "name"]) (TW : WCls K CW) (C_plain_walk : Cal P w K mg base CX0 "plain_walk" ["project", "name"] 225 (spPlainWalk K CP CW)) : Cal P w K mg base CX0 "full_run" ["project", "name"] 226 (spFullRun K CP) := by
  refine D.cal fun f fd F => F.ok sc_full_run (fun vs H Q E h => ?_) (fun cdv A outer s H vs Q E hr h => ?_)
  · obtain ⟨_, _, _, rfl, _⟩ := h
    rfl
  · obtain ⟨p, prs, z, rfl, hp, ok, h50, ht, q⟩ := h
    refine ⟨_, (pss_cons (ps_set (i := 2) sc_full_run.nd rfl (.inl rfl) (pe_cal C_plain_walk hr (by rfl) (pa_cons (pv 0) (pa_cons (pv 1) pa_nil))))
      (pss_cons (ps_if (pt_cmp (pc_dnotin (hu_of hr) (pv 1) (pe_fldU K (pv 2) rfl))) (pss_one ps_never) pss_nil)
      (pss_one (ps_ret (pe_dget (hu_of hr) (pe_fldU K (pv 2) rfl) (pv 1) (fun _ _ => rfl)))))), ?_⟩
    walk_at "rd"
    refine ⟨p, prs, z, rfl, hp, ok, h50, ht.nameOk ok, fun H1 wa fr on s1 hw => ?_⟩
    obtain ⟨dx, kvs, h1, h2, h3, h4, h5, h6, h7, h8⟩ := id hw
    have hlk : ((pTop prs z).2.map rp).lookup z = some (fullRun prs z).py := by rw [lookup_rp, top_look ok ht]; rfl
    obtain ⟨v, ev, dv⟩ := valV_str_pos h7 hlk
    walk_at "rd"
    refine i_fk h5 TW.cl TW.n_fr rfl ?_
    refine i_dnk h6 ?_
    rw [ev]
    walk_at "rd"
    refine i_fk h5 TW.cl TW.n_fr rfl ?_
    walk_at "rd"
    refine i_dgk h6 ev ?_
    exact q H1 v s1 dv
def spMetBy (K : PySem.W.Frag) (CP : Addr) : Sp := fun vs H Q _ => ∃ (p : Addr) (prs : Prs) (z : Str), vs = [.ref p, .str z] ∧ IsPr K CP H p prs ∧ PrsOk prs ∧ prs.length ≤ 50 ∧ nameOk z = true ∧ ∀ H' v, Same H H' → Dt K H' (.tuple ((metBy prs z).map .str)) v → Q v H'
theorem ok_met_by {CP CW : Addr} (D : Df K mg "met_by" "met_by" s_met_by ["project", "name"]) (TW : WCls K CW) (B : NoB mg) (C_plain_walk : Cal P w K mg base CX0 "plain_walk" ["project", "name"] 225 (spPlainWalk K CP CW)) : Cal P w K mg base CX0 "met_by" ["project", "name"] 226 (spMetBy K CP) := by
  refine D.cal fun f fd F => F.ok sc_met_by (fun vs H Q E h => ?_) (fun cdv A outer s H vs Q E hr h => ?_)
  · obtain ⟨_, _, _, rfl, _⟩ := h
    rfl
  · obtain ⟨p, prs, z, rfl, hp, ok, h50, hz, q⟩ := h
    refine ⟨_, (pss_one (ps_ret (pe_callTy (call_tupD rfl) (by rfl) B.m_tuple (by decide +kernel) (pa_cons (pe_fldU K (pe_cal C_plain_walk hr (by rfl) (pa_cons (pv 0) (pa_cons (pv 1) pa_nil))) rfl) pa_nil)))), ?_⟩
    walk_at "rd"
    refine ⟨p, prs, z, rfl, hp, ok, h50, hz, fun H1 wa fr on s1 hw => ?_⟩
    obtain ⟨dx, kvs, h1, h2, h3, h4, h5, h6, h7, h8⟩ := id hw
    refine i_fk h5 TW.cl TW.n_fr rfl ?_
    walk_at "rd"
    refine i_tupD h6 fun t H2 n2 s2 e2 => ?_
    rw [h7.keys, keys_rp] at e2
    exact q H2 _ (s1.trans s2) (dt_tup (.inl (.inl e2)) dts_strs)
def spPaperOf (K : PySem.W.Frag) (CP : Addr) : Sp := fun vs H Q _ => ∃ (p : Addr) (prs : Prs) (z : Str), vs = [.ref p, .str z] ∧ IsPr K CP H p prs ∧ PrsOk prs ∧ prs.length ≤ 50 ∧ nameOk z = true ∧ ∀ H' v, Same H H' → Dt K H' (.tuple ((paperD prs z).map stepPy)) v → Q v H'
theorem ok_paper_of {CP : Addr} (D : Df K mg "paper_of" "paper_of" s_paper_of ["project", "name"]) (B : NoB mg) (C_full_run : Cal P w K mg base CX0 "full_run" ["project", "name"] 226 (spFullRun K CP)) (C_met_by : Cal P w K mg base CX0 "met_by" ["project", "name"] 226 (spMetBy K CP)) :
    Cal P w K mg base CX0 "paper_of" ["project", "name"] 227 (spPaperOf K CP) := by
  refine D.cal fun f fd F => F.ok sc_paper_of (fun vs H Q E h => ?_) (fun cdv A outer s H vs Q E hr h => ?_)
  · obtain ⟨_, _, _, rfl, _⟩ := h
    rfl
  · obtain ⟨p, prs, z, rfl, hp, ok, h50, hz, q⟩ := h
    refine ⟨_, (pss_cons (ps_set (i := 2) sc_paper_of.nd rfl (.inl rfl) (pe_lst pa_nil))
      (pss_cons (ps_for PassesOwn.never rfl (pi_tupU K (pe_cal C_met_by hr (by rfl) (pa_cons (pv 0) (pa_cons (pv 1) pa_nil)))) (pg_name (i := 3) sc_paper_of.nd rfl (.inl rfl)) (pss_cons (ps_asg (pe_cal C_full_run hr (by rfl) (pa_cons (pv 0) (pa_cons (pv 3) pa_nil))) (pg_tupU (n := 2) K (by rfl) (pgs_cons (pg_name (i := 4) sc_paper_of.nd rfl (.inl rfl)) (pgs_cons (pg_name (i := 5) sc_paper_of.nd rfl (.inl rfl)) pgs_nil))))
      (pss_one (ps_expr (pe_bmU K PySem.F.plainAttrs_list PySem.F.slot_list_append PySem.F.type_list_append mt_append (pv 2) (pa_cons (pe_tup (pa_cons (pv 3) (pa_cons (pv 4) (pa_cons (pv 5) pa_nil)))) pa_nil))))))
      (pss_one (ps_ret (pe_callTy (call_tupU K) (by rfl) B.m_tuple (by decide +kernel) (pa_cons (pv 2) pa_nil)))))), ?_⟩
    obtain ⟨hnd, hin⟩ := met_len ok hz
    have hml : (metBy prs z).length ≤ 50 := by
      have h1 := nodup_len hnd hin
      unfold names at h1
      rw [List.length_map] at h1
      have := h50
      omega
    walk_at "rd"
    refine i_new_l (Nat.zero_le _) fun l H1 n1 s1 e1 => ?_
    walk_at "rd"
    refine ⟨p, prs, z, rfl, hp.same s1, ok, h50, hz, fun H2 v s2 hv => ?_⟩
    obtain ⟨a, xs, rfl, hs, hq⟩ := hv.tup
    have s12 := s1.trans s2
    have hlen := hq.length
    rw [List.length_map] at hlen
    refine f_tup hs (fun i σ H3 => ∃ (ys : List V) (y1 y2 y3 : Option V), σ = [some (.ref p), some (.str z), some (.ref l), y1, y2, y3] ∧ Same H H3 ∧ Stay H2 H3 ∧ H3 l = some (.lst ys) ∧ Dts K H3 (((paperD prs z).take i).map stepPy) ys) ?_ ?_ ?_ ?_
    · exact ⟨[], none, none, none, rfl, s12, .refl _, s2 _ _ e1, dts_nil⟩
    · rintro i σ H3 _ ⟨ys, y1, y2, y3, rfl, s3, t3, _⟩
      exact sqT_tt t3 hs
    · rintro i x σ H3 hx ⟨ys, y1, y2, y3, rfl, s3, t3, el, hys⟩
      obtain ⟨d, hdi, hdx⟩ := hq.get hx
      rw [List.getElem?_map] at hdi
      cases hmi : (metBy prs z)[i]? with
      | none => rw [hmi] at hdi; cases hdi
      | some m =>
      rw [hmi] at hdi
      cases (Option.some.inj hdi)
      have ex := hdx.str
      subst ex
      have ht := met_thing ok hz (List.mem_of_getElem? hmi)
      have hpi : (paperD prs z)[i]? = some (m, fullRun prs m) := by unfold paperD; rw [List.getElem?_map, hmi]; rfl
      have hi := (List.getElem?_eq_some_iff.mp hmi).1
      walk_at "rd"
      refine ⟨p, prs, m, rfl, hp.same s3, ok, h50, ht, fun H4 v4 s4 hv4 => ?_⟩
      obtain ⟨ra, r1, r2, rfl, hra, hr1, hr2⟩ := Dt.pair (show Dt K H4 (.tuple [.tuple ((fullRun prs m).1.map Asked.py), (fullRun prs m).2.py]) v4 from hv4)
      refine i_gtup hra rfl ?_
      walk_at "rd"
      refine i_tyl (s4 _ _ el) ?_
      walk_at "rd"
      refine i_new_t (by show 3 ≤ sizeLine; decide) fun t5 H5 n5 s5 e5 => ?_
      walk_at "rd"
      have s45 := s4.trans s5
      have hyl := hys.length
      rw [List.length_map, List.length_take] at hyl
      refine i_append (s45 _ _ el) (szlt (by omega)) fun H6 b6 e6 => ?_
      have st6 : Stay H3 H6 := (Stay.same s45).trans (.but b6 (s45 _ _ el))
      refine ⟨_, _, _, _, rfl, Same.but (s3.trans s45) n1 b6, t3.trans st6, e6, ?_⟩
      rw [take_snoc hpi, List.map_append]
      have d5 : Dt K H5 (stepPy (m, fullRun prs m)) (.ref t5) := dt_tup (.inl (.inl e5)) (dts_cons dt_str (dts_cons (hr1.mono (.same s5)) (dts_cons (hr2.mono (.same s5)) dts_nil)))
      exact (hys.mono st6).snoc (d5.mono (.but b6 (s45 _ _ el)))
    · rintro σ H3 ⟨ys, y1, y2, y3, rfl, s3, t3, el, hys⟩
      rw [List.take_of_length_le (by unfold paperD; rw [List.length_map]; omega)] at hys
      walk_at "rd"
      refine i_tupof_l (.inl (.inl el)) fun t4 H4 n4 s4 e4 => ?_
      exact q H4 _ (s3.trans s4) (dt_tup (.inl (.inl e4)) (hys.mono (.same s4)))
end
end Aw

/-! sorted, any number of items: texts; pairs of texts -/
namespace AwS
open PySem PyProof.Rows SrtO
section
variable {prog : Program} {w : World} {A : Around} {E : Value → Shared → Prop} {s : Shared}
def tv : Value → List Nat
  | .str x _ => x.cps.toList
  | _ => []
def ltT (v u : Value) : Bool := decide (tv v < tv u)
theorem nlt_trans {a b c : List Nat} (h1 : ¬ b < a) (h2 : ¬ c < b) : ¬ c < a := fun h => by
  have k1 : a ≤ b := h1
  have k2 : b ≤ c := h2
  have k3 : a ≤ c := List.le_trans k1 k2
  exact k3 h
theorem swo_tx : Swo ltT := by
  refine ⟨fun x y h => ?_, fun x y z h1 h2 => ?_⟩
  · have a := of_decide_eq_true (p := tv x < tv y) h
    exact decide_eq_false (p := tv y < tv x) fun b => List.lt_irrefl _ (lt_trans' a b)
  · have a := of_decide_eq_false (p := tv y < tv x) h1
    have b := of_decide_eq_false (p := tv z < tv y) h2
    exact decide_eq_false (p := tv z < tv x) (nlt_trans a b)
theorem tx_cmp {vs : List Value} (hI : ∀ v ∈ vs, ∃ x t, v = Value.str x t) : Cmp prog w A s oneType' (fun p => p.1 ∈ vs) (lt2 ltT) := by
  intro p q hm hm'
  obtain ⟨a, t, e⟩ := hI _ hm
  obtain ⟨b, u, e'⟩ := hI _ hm'
  show wpAny (model prog w) A (keyLt' oneType' p.1 q.1) (fun r s' => s' = s ∧ r = ltT p.1 q.1) (fun _ _ => False) s
  rw [e, e', keyLt'_oneType]
  exact oneLt_any_str ⟨rfl, rfl⟩
theorem tx_sortable {a : Addr} {vs : List Value} {ss : List Str} (hS : StrsAre vs ss) (h2 : 2 ≤ vs.length) : SortableO prog w A s a vs ltT := by
  intro h' _
  refine ⟨oneType', fun Q E hq => ?_, tx_cmp hS.all⟩
  match vs, hS, h2 with
  | v1 :: v2 :: rest, hS, _ =>
    rw [keyKind_strs hS]
    exact wpAny_pure hq
  | [], _, h => exact absurd h (by decide)
  | [v], _, h => exact absurd h (by simp)
/-- a pair of texts -/
def HasKz (h : Heap) (v : Value) (p : Str × Str) : Prop := ∃ (a : Addr) (o : Obj) (k : Nat) (t u : Tok), v = .ref a ∧ h.get? a = some o ∧ o.cls = .type "tuple" ∧ o.data = .seq #[.str p.1 t, .str p.2 u] k
theorem HasKz.keeps {h h' : Heap} {v : Value} {p : Str × Str} (x : HasKz h v p) (k : ∀ b o, h.get? b = some o → o.cls = .type "tuple" → h'.get? b = some o) : HasKz h' v p := by
  obtain ⟨a, o, j, t, y, e, ho, hc, hd⟩ := x
  exact ⟨a, o, j, t, y, e, k a o ho hc, hc, hd⟩
theorem HasKz.fn {h : Heap} {v : Value} {n m : Str × Str} (x : HasKz h v n) (y : HasKz h v m) : n = m := by
  obtain ⟨a, o, j, t, b, rfl, ho, _, hd⟩ := x
  obtain ⟨a', o', j', t', b', e, ho', _, hd'⟩ := y
  cases e
  rw [ho] at ho'
  cases ho'
  rw [hd] at hd'
  injection hd' with e1 e2
  have z0 := congrArg (fun q : Array Value => q[0]?) e1
  have z1 := congrArg (fun q : Array Value => q[1]?) e1
  simp at z0 z1
  exact Prod.ext z0.1 z1.1
open Classical in
noncomputable def kzOf (h : Heap) (v : Value) : Str × Str := if x : ∃ n, HasKz h v n then x.choose else (Str.empty, Str.empty)
theorem kzOf_eq {h : Heap} {v : Value} {n : Str × Str} (x : HasKz h v n) : kzOf h v = n := by
  unfold kzOf
  have e : ∃ n, HasKz h v n := ⟨n, x⟩
  rw [dif_pos e]
  exact e.choose_spec.fn x
def ltK (p q : Str × Str) : Bool := if p.1 = q.1 then decide (p.2.cps.toList < q.2.cps.toList) else decide (p.1.cps.toList < q.1.cps.toList)
theorem cps_ne {a b : Str} (h : ¬ a = b) : ¬ a.cps.toList = b.cps.toList := fun e => h (by
  obtain ⟨⟨x⟩⟩ := a
  obtain ⟨⟨y⟩⟩ := b
  exact congrArg (fun z : List Nat => (⟨⟨z⟩⟩ : Str)) e)
theorem nlt_of_lt {a b : List Nat} (h : a < b) : ¬ b < a := fun k => List.lt_irrefl _ (lt_trans' h k)
theorem lt_of_nlt {a b : List Nat} (h : ¬ a < b) (n : ¬ a = b) : b < a := by
  have : b ≤ a := h
  rcases Classical.em (b < a) with k | k
  · exact k
  · exact absurd (List.le_antisymm (show a ≤ b from k) this) n
theorem swo_kz (k : Value → Str × Str) : Swo fun v u => ltK (k v) (k u) := by
  refine ⟨fun x y h => ?_, fun x y z h1 h2 => ?_⟩
  · generalize k x = p at h ⊢
    generalize k y = q at h ⊢
    unfold ltK at h ⊢
    by_cases e : p.1 = q.1
    · rw [if_pos e] at h
      rw [if_pos e.symm]
      exact decide_eq_false (nlt_of_lt (of_decide_eq_true h))
    · rw [if_neg e] at h
      rw [if_neg fun z => e z.symm]
      exact decide_eq_false (nlt_of_lt (of_decide_eq_true h))
  · generalize k x = p at h1 h2 ⊢
    generalize k y = q at h1 h2 ⊢
    generalize k z = r at h1 h2 ⊢
    unfold ltK at h1 h2 ⊢
    by_cases e1 : q.1 = p.1
    · rw [if_pos e1] at h1
      by_cases e2 : r.1 = q.1
      · rw [if_pos e2] at h2
        rw [if_pos (e2.trans e1)]
        exact decide_eq_false (nlt_trans (of_decide_eq_false h1) (of_decide_eq_false h2))
      · rw [if_neg e2] at h2
        rw [if_neg fun z => e2 (z.trans e1.symm), ← e1]
        exact h2
    · rw [if_neg e1] at h1
      by_cases e2 : r.1 = q.1
      · rw [if_neg fun z => e1 (e2.symm.trans z), e2]
        exact h1
      · rw [if_neg e2] at h2
        have a1 := of_decide_eq_false h1
        have a2 := of_decide_eq_false h2
        by_cases e3 : r.1 = p.1
        · rw [e3] at a2 e2
          exact absurd (lt_of_nlt a1 (cps_ne e1)) a2
        · rw [if_neg e3]
          exact decide_eq_false (nlt_trans a1 a2)
theorem kz_cmp {vs : List Value} {k : Value → Str × Str} (hp : ∀ v ∈ vs, HasKz s.heap v (k v)) : Cmp prog w A s (tuples' true) (fun p => p.1 ∈ vs) (lt2 fun v u => ltK (k v) (k u)) := by
  intro p q hm hm'
  have h1 := hp _ hm
  have h2 := hp _ hm'
  show wpAny (model prog w) A (keyLt' (tuples' true) p.1 q.1) (fun r s' => s' = s ∧ r = ltK (k p.1) (k q.1)) (fun _ _ => False) s
  unfold ltK
  generalize k p.1 = x at h1 ⊢
  generalize k q.1 = x' at h2 ⊢
  obtain ⟨a, o, n, t, u, e, ho, hc, hd⟩ := h1
  obtain ⟨a', o', n', t', u', e', ho', hc', hd'⟩ := h2
  rw [e, e']
  refine PySem.W.kat_lt ho hd ho' hd' ?_
  show PySem.W.KatLex prog w A true (decide (2 < 2)) _ [(.str x.1 t, .str x'.1 t'), (.str x.2 u, .str x'.2 u')] 0 s
  refine PySem.W.kat_cons (wpAny_eqBool_str ?_)
  by_cases e1 : x.1 = x'.1
  · rw [decide_eq_true e1]
    refine PySem.W.kat_yes (PySem.W.kat_cons (wpAny_eqBool_str ?_))
    by_cases e2 : x.2 = x'.2
    · rw [decide_eq_true e2]
      refine PySem.W.kat_yes (PySem.W.kat_nil ⟨rfl, ?_⟩)
      rw [if_pos e1, e2]
      exact (decide_eq_false (List.lt_irrefl _)).symm
    · rw [decide_eq_false e2]
      refine PySem.W.kat_no (oneLt_any_str ⟨rfl, ?_⟩)
      rw [if_pos e1]
  · rw [decide_eq_false e1]
    refine PySem.W.kat_no (oneLt_any_str ⟨rfl, ?_⟩)
    rw [if_neg e1]
theorem firsts_kz {h : Heap} : ∀ vs : List Value, (∀ v ∈ vs, ∃ n, HasKz h v n) → ∃ fs, PySem.W.KatTups h vs fs ∧ fs.length = vs.length ∧ ∀ f, f ∈ fs → ∃ n t, f = Value.str n t
  | [], _ => ⟨[], PySem.W.KatTups.nil, rfl, fun f hf => by simp at hf⟩
  | v :: vs, x => by
    obtain ⟨fs, k, hl, hi⟩ := firsts_kz vs fun u hu => x u (List.mem_cons_of_mem _ hu)
    obtain ⟨n, a, o, j, t, y, rfl, ho, hc, hd⟩ := x v (List.mem_cons_self ..)
    refine ⟨.str n.1 t :: fs, PySem.W.KatTups.cons ho hc hd rfl k, by simp [hl], ?_⟩
    intro f hf
    rcases List.mem_cons.mp hf with rfl | hf
    · exact ⟨_, t, rfl⟩
    · exact hi f hf
theorem kz_sortable {a : Addr} {vs : List Value} {k : Value → Str × Str} (h0 : 0 < vs.length) (hp : ∀ v ∈ vs, HasKz s.heap v (k v)) (ha : ∀ o, s.heap.get? a = some o → o.cls ≠ .type "tuple") : SortableO prog w A s a vs fun v u => ltK (k v) (k u) := by
  intro h' keep
  have hp' : ∀ v ∈ vs, HasKz h' v (k v) := fun v hm => (hp v hm).keeps fun b o e c => keep b o (fun z => by subst z; exact ha o e c) e
  obtain ⟨fs, h1, h2, h3⟩ := firsts_kz vs fun v hm => ⟨_, hp' v hm⟩
  refine ⟨tuples' true, fun Q E hq => ?_, kz_cmp hp'⟩
  refine PySem.W.kat_kind (T := .type "str") h1 (by omega) (fun f hm => ?_) (by rfl) ?_
  · obtain ⟨x, t, rfl⟩ := h3 f hm
    exact PySem.W.Looks.of_pure rfl
  · have e : (Value.type "str" != Value.type "tuple") = true := by first | decide +kernel | rfl | decide
    rw [e]
    exact hq
theorem sorted_kzO {l : Addr} {vs : List Value} {k : Value → Str × Str} {Q : Value → Shared → Prop} (hl : s.heap.IsList l vs.toArray) (hz : vs.length ≤ sizeLine) (hp : ∀ v ∈ vs, HasKz s.heap v (k v))
    (h : ∀ out : List Value, Srtd (fun v u => ltK (k v) (k u)) out → out.Perm vs → Q (.ref (s.heap.objs.size + 1)) { s with heap := sortedAll s.heap vs out.toArray }) :
    wpAny (model prog w) A (call (.builtin "sorted") [.ref l]) Q E s := by
  refine sorted_ord (swo_kz k) hl hz (fun h2 h₁ a ha kk => ?_) fun out hs hb => h out hs hb.perm
  refine kz_sortable (s := { s with heap := h₁ }) (by omega) (fun v hm => (hp v hm).keeps fun b o e _ => (kk b o e).2) fun o e => ?_
  have e' : some o = some (seqObj "list" vs.toArray 0) := e.symm.trans ha
  cases e'
  intro c
  exact absurd (Value.type.inj c) (by decide)
end
end AwS
namespace Aw
open PySem PySem.Spec PyProof.Rows L2
/-! ### the rules -/
def rSortT (K : PySem.W.Frag) : List V → Hp → VK → Prop := fun vs H Q => ∃ (a : Addr) (xs : List Str), vs = [.ref a] ∧ SqL K H a (xs.map V.str) ∧ ∀ p, H p = none → Q (.ref p) (upd H p (.lst ((srtN xs).map V.str)))
theorem vals_of_strs {us : List Value} {ss : List Str} (h : StrsAre us ss) : Vals (ss.map V.str) us := by
  induction h with
  | nil => exact .nil
  | cons x t r ih => exact .cons ⟨t, rfl⟩ ih
theorem cr_sortT {X : Cx} : CallR X (.builtin "sorted") (rSortT X.K) := by
  intro pins s σ H vs us Q I r h
  obtain ⟨a, xs, rfl, hs, q⟩ := h
  obtain ⟨its, rv, hl, hz⟩ := I.list hs
  rw [Vals.ref1 r]
  have hi : StrsAre its xs := rv.strs
  have hi2 := hi.strs
  refine SrtO.sorted_ord AwS.swo_tx hl.isList (by rw [← rv.length]; exact hz) (fun h2 h₁ a' _ _ => AwS.tx_sortable hi h2) fun out h1 h2 => ?_
  have hp := h2.perm
  have ho : StrsAre out (out.map strOf) := strsAre_map out fun v hv => hi.all v (hp.mem_iff.mp hv)
  have e : out.map strOf = srtN xs := by
    refine srtN_unique ?_ ?_
    · rw [← hi2]; exact hp.map _
    · rw [List.pairwise_map]
      refine h1.imp_of_mem fun {x y} hx hy h => ?_
      obtain ⟨z, t, rfl⟩ := hi.all x (hp.mem_iff.mp hx)
      obtain ⟨z', t', rfl⟩ := hi.all y (hp.mem_iff.mp hy)
      show leS z z' = true
      unfold leS
      have h : decide (z'.cps.toList < z.cps.toList) = false := h
      rw [h]; rfl
  rw [e] at ho
  obtain ⟨ep, he'⟩ := PyProof.Rows.sortedAll_at s.heap its out.toArray
  have hlen : ((srtN xs).map V.str).length ≤ sizeLine := by
    rw [List.length_map, (srtN_perm xs).length_eq]
    rw [List.length_map] at hz
    exact hz
  exact ⟨.ref _, upd H (s.heap.objs.size + 1) (.lst ((srtN xs).map V.str)), I.laid (t' := s.toks) (fun _ _ => PyProof.Rows.sortedAll_old) (Nat.le_succ _) ⟨hlen, out, ep, vals_of_strs ho, he'⟩, rfl, q _ (I.hok.fresh (Nat.le_succ _))⟩
theorem call_sortTU {X : Cx} (K : PySem.W.Frag) (h : X.K = K := by rfl) : CallR X (.builtin "sorted") (rSortT K) := h ▸ cr_sortT
theorem i_sortT {K : PySem.W.Frag} {H : L2.Hp} {Q : L2.VK} {a : Addr} {xs : List Str} (s : L2.SqL K H a (xs.map L2.V.str)) (q : ∀ p H', H p = none → L2.Same H H' → H' p = some (.lst ((srtN xs).map L2.V.str)) → Q (.ref p) H') : rSortT K [.ref a] H Q :=
  ⟨a, xs, rfl, s, fun p hp => q p _ hp (same_new hp _) L2.upd_same⟩
/-- pairs of texts, as data -/
def kzPy (p : Str × Str) : PyData := .tuple [.str p.1, .str p.2]
def leK (p q : Str × Str) : Bool := !AwS.ltK q p
def rSortKz (K : PySem.W.Frag) : List V → Hp → VK → Prop := fun vs H Q => ∃ (a : Addr) (xs : List V) (ps : List (Str × Str)), vs = [.ref a] ∧ SqL K H a xs ∧ Dts K H (ps.map kzPy) xs ∧
  ∀ (qs : List (Str × Str)) ys p, qs.Perm ps → (qs.Pairwise fun x y => leK x y = true) → Dts K H (qs.map kzPy) ys → H p = none → Q (.ref p) (upd H p (.lst ys))
theorem dt_kz {X : Cx} {pins : List (Addr × Obj)} {σ : L2.St} {H : Hp} {s : Shared} (I : Inv X pins σ H s) {p : Str × Str} {v : V} (h : Dt X.K H (kzPy p) v) {u : Value} (r : RelV v u) : ∃ t, u = .ref t ∧ v = .ref t ∧ AwS.HasKz s.heap u p := by
  have h : Dt X.K H (.tuple [.str p.1, .str p.2]) v := h
  obtain ⟨t, xs, rfl, hs, hq⟩ := h.tup
  obtain ⟨x, r1, rfl, hx, hq⟩ := hq.cons
  obtain ⟨y, r2, rfl, hy, hq⟩ := hq.cons
  rw [hq.nil] at hs
  cases r
  have e := hx.str
  subst e
  have e := hy.str
  subst e
  obtain ⟨its, rv, ht, _⟩ := I.tuple hs
  refine ⟨t, rfl, rfl, ?_⟩
  cases rv with
  | cons r1 r2 =>
    cases r2 with
    | cons r2 r3 =>
      cases r3
      obtain ⟨tk, rfl⟩ := r1
      obtain ⟨tk2, rfl⟩ := r2
      obtain ⟨o, ho, hc, k, hd⟩ := ht
      exact ⟨t, o, k, tk, tk2, rfl, ho, hc, hd⟩
theorem dts_kz {X : Cx} {pins : List (Addr × Obj)} {σ : L2.St} {H : Hp} {s : Shared} (I : Inv X pins σ H s) : ∀ {prs : List (Str × Str)} {xs : List V} {us : List Value}, Dts X.K H (prs.map kzPy) xs → Vals xs us → us.map (AwS.kzOf s.heap) = prs ∧
    ∀ u ∈ us, AwS.HasKz s.heap u (AwS.kzOf s.heap u) ∧ Dt X.K H (kzPy (AwS.kzOf s.heap u)) (bkV u) ∧ ∃ t, u = .ref t
  | [], xs, us, h, r => by
    have e := h.nil
    subst e
    cases r
    exact ⟨rfl, fun u hu => absurd hu (by simp)⟩
  | p :: prs, xs, us, h, r => by
    obtain ⟨v, vs, rfl, hv, hr⟩ := h.cons
    cases r with
    | cons r1 r2 =>
      obtain ⟨t, rfl, rfl, hn⟩ := dt_kz I hv r1
      obtain ⟨k1, k3⟩ := dts_kz I hr r2
      refine ⟨?_, ?_⟩
      · rw [List.map_cons, k1, AwS.kzOf_eq hn]
      · intro u hu
        rcases List.mem_cons.mp hu with rfl | hu
        · rw [AwS.kzOf_eq hn]
          exact ⟨hn, hv, t, rfl⟩
        · exact k3 u hu
theorem dts_kzo {X : Cx} {H : Hp} {h : Heap} : ∀ {us : List Value}, (∀ u ∈ us, Dt X.K H (kzPy (AwS.kzOf h u)) (bkV u)) → Dts X.K H ((us.map (AwS.kzOf h)).map kzPy) (us.map bkV)
  | [], _ => dts_nil
  | u :: us, k => dts_cons (k u (List.mem_cons_self ..)) (dts_kzo (us := us) fun z hz => k z (List.mem_cons_of_mem _ hz))
theorem cr_sortKz {X : Cx} : CallR X (.builtin "sorted") (rSortKz X.K) := by
  intro pins s σ H vs us Q I r h
  obtain ⟨a, xs, prs, rfl, hs, hd, q⟩ := h
  obtain ⟨its, rv, hl, hz⟩ := I.list hs
  rw [Vals.ref1 r]
  obtain ⟨e1, e3⟩ := dts_kz I hd rv
  refine AwS.sorted_kzO (k := AwS.kzOf s.heap) hl.isList (by rw [← rv.length]; exact hz) (fun v hv => (e3 v hv).1) fun out h1 h2 => ?_
  have h3 : ∀ u ∈ out, ∃ a, u = Value.ref a := fun u hu => (e3 u (h2.mem_iff.mp hu)).2.2
  obtain ⟨ep, he'⟩ := PyProof.Rows.sortedAll_at s.heap its out.toArray
  have hzz : (out.map bkV).length ≤ sizeLine := by
    rw [List.length_map, h2.length_eq, ← rv.length]
    exact hz
  refine ⟨.ref _, upd H (s.heap.objs.size + 1) (.lst (out.map bkV)), I.laid (t' := s.toks) (fun _ _ => PyProof.Rows.sortedAll_old) (Nat.le_succ _) ⟨hzz, out, ep, bkV_vals h3, he'⟩, rfl, q (out.map (AwS.kzOf s.heap)) _ _ ?_ ?_ (dts_kzo fun u hu => (e3 u (h2.mem_iff.mp hu)).2.1) (I.hok.fresh (Nat.le_succ _))⟩
  · have := h2.map (AwS.kzOf s.heap)
    rw [e1] at this
    exact this
  · rw [List.pairwise_map]
    refine h1.imp fun {x y} h => ?_
    have h : AwS.ltK (AwS.kzOf s.heap y) (AwS.kzOf s.heap x) = false := h
    unfold leK
    rw [h]; rfl
theorem call_sortKzU {X : Cx} (K : PySem.W.Frag) (h : X.K = K := by rfl) : CallR X (.builtin "sorted") (rSortKz K) := h ▸ cr_sortKz
theorem i_sortKz {K : PySem.W.Frag} {H : Hp} {Q : VK} {a : Addr} {xs : List V} {ps : List (Str × Str)} (s : SqL K H a xs) (d : Dts K H (ps.map kzPy) xs)
    (q : ∀ p H' ys (qs : List (Str × Str)), H p = none → Same H H' → H' p = some (.lst ys) → qs.Perm ps → (qs.Pairwise fun x y => leK x y = true) → Dts K H' (qs.map kzPy) ys → Q (.ref p) H') : rSortKz K [.ref a] H Q :=
  ⟨a, xs, ps, rfl, s, d, fun qs ys p h1 h2 hd hp => q p _ ys qs hp (same_new hp _) upd_same h1 h2 (hd.mono (.same (same_new hp _)))⟩
end Aw

/-! set(xs), sorted(set(xs)): texts -/
namespace Aw
open PySem PySem.Spec PyProof.Rows L2
/-! ### a set of texts that can be walked -/
def txK (e : Int × Value) : Str := match e.2 with
  | .str k _ => k
  | _ => Str.empty
def TxE (w : World) (e : Int × Value) : Prop := ∃ k tk, e.2 = Value.str k tk ∧ e.1 = hashStr w k
structure TxSet (w : World) (h : Heap) (a : Addr) (M : Str → Prop) (n : Nat) : Prop where
  ex : ∃ o es ep t, h.get? a = some o ∧ o.ExactSet ∧ o.data = .set es ep t ∧ (∀ e ∈ es.toList, TxE w e) ∧ (es.toList.map txK).Nodup ∧ (∀ k, M k ↔ k ∈ es.toList.map txK) ∧
    es.size < scanBound ∧ t.fits es.size = true ∧ es.size = n ∧ Ris t.place.toList ∧ (w.params.followText "set-order" = true ∨ t.led = true)
section
variable {P : Program} {w : World} {h h' : Heap} {a : Addr} {M : Str → Prop} {n : Nat}
theorem TxSet.keep (R : TxSet w h a M n) (k : ∀ o, h.get? a = some o → h'.get? a = some o) : TxSet w h' a M n := by
  obtain ⟨o, es, ep, t, ho, r⟩ := R.ex
  exact ⟨o, es, ep, t, k o ho, r⟩
theorem TxSet.alike {M' : Str → Prop} (R : TxSet w h a M n) (e : ∀ k, M' k ↔ M k) : TxSet w h a M' n := by
  obtain ⟨o, es, ep, t, h1, h2, h3, h4, h5, h6, r⟩ := R.ex
  exact ⟨o, es, ep, t, h1, h2, h3, h4, h5, fun k => (e k).trans (h6 k), r⟩
theorem txE_elems {l : List (Int × Value)} (g : ∀ e ∈ l, TxE w e) : ElemsOf (strKind P w) l := fun e he => by
  obtain ⟨k, tk, h1, h2⟩ := g e he
  exact ⟨⟨k, by rw [h1]; exact strKind_is P w k tk, h2⟩, by rw [h1]; rfl⟩
theorem txE_is {e : Int × Value} (g : TxE w e) (k : Str) : (strKind P w).is k e.2 = true ↔ txK e = k := by
  obtain ⟨k0, tk, h1, _⟩ := g
  unfold txK
  rw [h1]
  show ((k0 == k) = true) ↔ k0 = k
  exact beq_iff_eq
theorem txE_mem {l : List (Int × Value)} (g : ∀ e ∈ l, TxE w e) (k : Str) : k ∈ l.map txK ↔ ∃ e ∈ l, (strKind P w).is k e.2 = true := by
  rw [List.mem_map]
  exact ⟨fun ⟨e, he, q⟩ => ⟨e, he, (txE_is (g e he) k).2 q⟩, fun ⟨e, he, q⟩ => ⟨e, he, (txE_is (g e he) k).1 q⟩⟩
end
section
variable {P : Program} {w : World} {A : Around} {E : Value → Shared → Prop} {s : Shared} {a : Addr} {M : Str → Prop} {n : Nat}
/-- the entries es1 with the table t2 are stored, then laid anew where the table is too full -/
theorem tx_laid {g : Bool → Sem Unit} (hg : ∀ (b : Bool) (s₁ : Shared) (Q' : Unit → Shared → Prop), Q' () s₁ → wpAny (model P w) A (g b) Q' E s₁)
    {o : Obj} {es : Array (Int × Value)} {ep : Nat} {t : SetTable} (ho : s.heap.get? a = some o) (hex : o.ExactSet) (hd : o.data = .set es ep t)
    {es1 : Array (Int × Value)} {t2 : SetTable} {M' : Str → Prop} (g1 : ∀ e ∈ es1.toList, TxE w e) (nd1 : (es1.toList.map txK).Nodup) (m1 : ∀ k, M' k ↔ k ∈ es1.toList.map txK)
    (hb1 : es1.size < scanBound) (hf2 : t2.fits es1.size = true) (hr : Ris t2.place.toList) (hl : w.params.followText "set-order" = true ∨ t2.led = true) {was : Bool} {R : Option Bool → Shared → Prop}
    (hR : ∀ h', Heap.SameBut a s.heap h' → TxSet w h' a M' es1.size → R (some true) { s with heap := h' }) :
    wpAny (model P w) A (do
        storeSet a es1 t2
        if (!was && t2.tooFull) = true then do
            g (relayAll t2 es1 (SetTable.grown es1.size)).2.2
            storeSet a (relayAll t2 es1 (SetTable.grown es1.size)).1 (relayAll t2 es1 (SetTable.grown es1.size)).2.1
            pure (some true)
          else pure (some true)) R E s := by
  have ho1 := store_at (es' := es1) (t' := t2) ho hd
  have sb := Heap.SameBut.update s.heap a (Obj.putSet es1 t2)
  refine wpAny_bind (wpAny_storeSet_of ho hd ?_ (fits_of_scanBound hb1))
  split
  · have p := relayAll_perm t2 es1 (SetTable.grown es1.size)
    have hf3 := relayAll_fits t2 es1 (SetTable.grown es1.size)
    have hr3 := relayAll_ris t2 es1 (SetTable.grown es1.size)
    have hl3 := relayAll_led t2 es1 (SetTable.grown es1.size)
    generalize relayAll t2 es1 (SetTable.grown es1.size) = Z at p hf3 hr3 hl3 ⊢
    obtain ⟨es2, t3, gave⟩ := Z
    dsimp only at p hf3 hr3 hl3 ⊢
    have e : es2.size = es1.size := by rw [← Array.length_toList, p.length_eq, Array.length_toList]
    have hb2 : es2.size < scanBound := e ▸ hb1
    refine wpAny_bind (hg _ _ _ (wpAny_bind (wpAny_storeSet_of ho1 rfl ?_ (fits_of_scanBound hb2))))
    have ho2 := store_at (es' := es2) (t' := t3) ho1 rfl
    exact wpAny_pure (hR _ (sb.trans (Heap.SameBut.update _ a _)) ⟨_, es2, _, t3, ho2, hex, rfl, fun e he => g1 e (p.mem_iff.mp he), (p.map txK).nodup_iff.mpr nd1, fun k => (m1 k).trans (p.map txK).mem_iff.symm, hb2, hf3, e, hr3,
      hl.imp id fun z => by rw [hl3]; exact z⟩)
  · exact wpAny_pure (hR _ sb ⟨_, es1, _, t2, ho1, hex, rfl, g1, nd1, m1, hb1, hf2, rfl, hr, hl⟩)
theorem tx_put {k : Str} {tk : Tok} {Q : Bool → Shared → Prop} (R : TxSet w s.heap a M n) (room : n + 1 < scanBound)
    (hQ : ∀ h' c b, Heap.SameBut a s.heap h' → c ≤ n + 1 → TxSet w h' a (fun j => M j ∨ j = k) c → Q b { s with heap := h' }) :
    wpAny (model P w) A (setAddHashed a (.str k tk) ((strKind P w).hash k)) Q E s := by
  obtain ⟨o, es, ep, t, ho, hex, hd, g, nd, hm, hb, hf, hn, hr, hl⟩ := R.ex
  have hkey : (strKind P w).is k (.str k tk) = true := strKind_is P w k tk
  have hsc : (Value.str k tk).scannable = true := rfl
  have hel : ElemsOf (strKind P w) es.toList := txE_elems g
  unfold setAddHashed setAddHashedIn
  refine wpAny_holding (wpAny_bind (wpAny_setState_of ho hd hf ?_))
  dsimp only
  rw [byScan_of hsc hb hel]
  simp only [↓reduceIte]
  unfold setAddByScan
  refine wpAny_bind (wpAny_bind (wpAny_rule (wpAny_bind (wpAny_setScan_of hkey ho hd hf hel ?_))))
  cases hfi : List.findIdx? (fun e => (strKind P w).is k e.2) es.toList with
  | some j =>
    dsimp only
    obtain ⟨hj, pj, _⟩ := List.findIdx?_eq_some_iff_getElem.mp hfi
    have hk : M k := (hm k).2 ((txE_mem (P := P) g k).2 ⟨es.toList[j], List.getElem_mem hj, pj⟩)
    exact wpAny_pure (wpAny_pure (hQ s.heap n _ (Heap.SameBut.refl a s.heap) (Nat.le_succ _) ⟨o, es, ep, t, ho, hex, hd, g, nd, fun i => ⟨fun z => (hm i).1 (z.elim id fun e => e ▸ hk), fun z => .inl ((hm i).2 z)⟩, hb, hf, hn, hr, hl⟩))
  | none =>
    dsimp only
    have hnk : k ∉ es.toList.map txK := fun z => by
      obtain ⟨e, he, q⟩ := (txE_mem (P := P) g k).1 z
      have c := List.findIdx?_eq_none_iff.mp hfi e he
      rw [q] at c
      cases c
    have hgw : ∀ (b : Bool) {s₁ : Shared} {Q' : Unit → Shared → Prop}, Q' () s₁ → wpAny (model P w) A (match b with | true => rule "set.scan.the-table-gave-way" | false => pure ()) Q' E s₁ :=
      fun b s₁ Q' q => by cases b <;> first | exact wpAny_pure q | exact wpAny_rule q
    have pm := layNew_perm t es ((strKind P w).hash k) (.str k tk)
    have hf1 := layNew_fits t es ((strKind P w).hash k) (.str k tk)
    have hr1 := layNew_ris t es ((strKind P w).hash k) (.str k tk) hr
    have hl1 := layNew_led t es ((strKind P w).hash k) (.str k tk)
    generalize layNew t es ((strKind P w).hash k) (.str k tk) = Z at pm hf1 hr1 hl1 ⊢
    obtain ⟨es1, t1, was, gave⟩ := Z
    dsimp only at pm hf1 hr1 hl1 ⊢
    rw [Array.toList_push] at pm
    have pc : es1.toList.Perm (((strKind P w).hash k, Value.str k tk) :: es.toList) := pm.trans (List.perm_append_singleton _ _)
    have pk : (es1.toList.map txK).Perm (k :: es.toList.map txK) := pc.map txK
    have g1 : ∀ e ∈ es1.toList, TxE w e := fun e he => by
      rcases List.mem_cons.mp (pc.mem_iff.mp he) with z | z
      · rw [z]; exact ⟨k, tk, rfl, rfl⟩
      · exact g e z
    have nd1 : (es1.toList.map txK).Nodup := pk.nodup_iff.mpr (List.nodup_cons.mpr ⟨hnk, nd⟩)
    have m1 : ∀ i, (M i ∨ i = k) ↔ i ∈ es1.toList.map txK := fun i => by
      rw [hm i, pk.mem_iff, List.mem_cons]
      exact Or.comm
    have hsz : es1.size = n + 1 := by rw [← Array.length_toList, pc.length_eq, List.length_cons, Array.length_toList, hn]
    have hb1 : es1.size < scanBound := by rw [hsz]; exact room
    have hled : w.params.followText "set-order" = true ∨ t1.led = true := hl.imp id fun z => by rw [hl1]; exact z
    have fin : ∀ h', Heap.SameBut a s.heap h' → TxSet w h' a (fun j => M j ∨ j = k) es1.size → Q true { s with heap := h' } := fun h' sb r => hQ h' _ _ sb (Nat.le_of_eq hsz) r
    refine wpAny_bind (hgw _ ?_)
    split
    · refine wpAny_bind ?_
      rw [hashByValue_scannable 8 hsc]
      refine wpAny_pure (tx_laid ?_ ho hex hd g1 nd1 m1 hb1 ?_ ?_ ?_ ?_)
      · intro b s₁ Q' q; cases b <;> first | exact wpAny_pure q | exact wpAny_rule q
      · first | (split <;> first | exact hf1 | exact SetTable.fits_plain_off hf1) | exact hf1
      · first | (split <;> exact hr1) | exact hr1
      · first | (split <;> exact hled) | exact hled
      · intro h' sb r; dsimp only; exact wpAny_pure (fin h' sb r)
    · refine wpAny_bind (wpAny_pure ?_)
      simp only [↓reduceIte]
      refine tx_laid ?_ ho hex hd g1 nd1 m1 hb1 hf1 hr1 hled ?_
      · intro b s₁ Q' q; cases b <;> first | exact wpAny_pure q | exact wpAny_rule q
      · intro h' sb r; dsimp only; exact wpAny_pure (fin h' sb r)
def fresh0 (w : World) : Obj := { cls := .type "set", dict := none, data := .set #[] 0 (.fresh 0 0 (!w.params.followText "set-order")) }
theorem tx_none {h : Heap} (ho : h.get? a = some (fresh0 w)) : TxSet w h a (fun _ => False) 0 :=
  ⟨_, #[], 0, _, ho, ⟨rfl, rfl, rfl⟩, rfl, (fun e he => by simp at he), (by simp), (fun k => by simp), (by decide), (by rfl), rfl, List.Pairwise.nil, by
    show _ ∨ (!w.params.followText "set-order") = true
    cases w.params.followText "set-order"
    · exact .inr rfl
    · exact .inl rfl⟩
theorem tx_update {I : Addr} {fp wr : List Addr} {G : Array GenState → Array GenState → Prop} {n : Nat} {Pv : Nat → Value → Prop} {St : Nat → Shared → Prop} {R : Result → Shared → Prop}
    (W : WalksS P w A.in1 I fp wr G n Pv St) (S : Addr) (hSf : S ∉ fp) (xs : List Str) (hn : n = xs.length) (hb : xs.length + 1 < scanBound) (hval : ∀ i v, Pv i v → ∃ k t, xs[i]? = some k ∧ v = .str k t) :
    ∀ (k i : Nat) (s : Shared), n - i = k → i ≤ n → St i s → (∃ c, c ≤ i ∧ TxSet w s.heap S (fun j => j ∈ xs.take i) c) →
      (∀ s' c, Moved (S :: wr) G s s' → c ≤ n → TxSet w s'.heap S (fun j => j ∈ xs) c → R (.ok (.ret .none)) s') →
      codeAny (model P w) A (.builtin "set.update.loop" ⟨[.ref S, .ref I], []⟩) R s := by
  have hSw : S ∉ wr := fun h => hSf (W.sub _ h)
  have hsub : ∀ b ∈ wr, b ∈ S :: wr := fun b hb => List.mem_cons_of_mem _ hb
  intro k
  induction k with
  | zero =>
    intro i s hk' hi hst ⟨c, hc, hS⟩ hR
    obtain rfl : i = n := by omega
    refine codeAny_builtin F.entry_set_update_loop ?_
    rw [Around.under_plainId F.plain_set_update_loop _]
    show wpAny _ A.in1 (pyNext (.ref I) >>= _) _ _ s
    refine wpAny_bind (W.done s _ _ hst fun s' hm => ?_)
    show wpAny _ A.in1 (ret Value.none) _ _ s'
    rw [List.take_of_length_le (show xs.length ≤ i by omega)] at hS
    exact wpAny_pure (hR s' c (hm.mono hsub) hc (hS.keep fun o e => hm.heap S o hSw e))
  | succ k ih =>
    intro i s hk' hi hst ⟨c, hc, hS⟩ hR
    have hlt : i < n := by omega
    refine codeAny_builtin F.entry_set_update_loop ?_
    rw [Around.under_plainId F.plain_set_update_loop _]
    show wpAny _ A.in1 (pyNext (.ref I) >>= _) _ _ s
    refine wpAny_bind (W.item i s _ _ hlt hst fun v s' hP hst' hm => ?_)
    obtain ⟨z, t, hz, rfl⟩ := hval i v hP
    have hS' : TxSet w s'.heap S (fun j => j ∈ xs.take i) c := hS.keep fun o e => hm.heap S o hSw e
    show wpAny _ A.in1 (holding [Value.str z t] (setAdd S (.str z t)) >>= _) _ _ s'
    refine wpAny_bind (wpAny_holding ?_)
    unfold setAdd
    refine wpAny_holding (wpAny_bind ((strKind P w).pyHash (k := z) (strKind_is _ _ _ _) ?_))
    refine tx_put (s := { s' with toks := s'.toks + 1 }) hS' (by omega) fun h' c2 _ hsb hc2 hS2 => ?_
    have hS3 : TxSet w h' S (fun j => j ∈ xs.take (i + 1)) c2 := hS2.alike fun j => by
      rw [List.take_add_one, hz]
      simp [List.mem_append]
    refine wpAny_pure ⟨plainId_quiet F.plain_set_update_loop _, ih (i + 1) _ (by omega) hlt (W.frame _ s' _ _ hst' (Nat.le_succ _) fun b hb o e => ?_) ⟨_, by omega, hS3⟩ fun s'' c3 hm'' hc'' hS'' => ?_⟩
    · rw [hsb.2 b (fun h : b = S => hSf (by rw [← h]; exact hb))]; exact e
    · refine hR s'' c3 (Moved.trans W.gtrans ((hm.mono hsub).then_heap (Nat.le_succ _) fun b o hb e => ?_) hm'') hc'' hS''
      rw [hsb.2 b (fun h : b = S => hb (by rw [h]; exact List.mem_cons_self))]; exact e
end
section
variable {P : Program} {w : World} {A : Around} {E : Value → Shared → Prop} {s : Shared}
theorem StrsAre.tx_at {vs : List Value} {xs : List Str} (h : StrsAre vs xs) : ∀ (i : Nat) (v : Value), vs[i]? = some v → ∃ k t, xs[i]? = some k ∧ v = .str k t := by
  induction h with
  | nil => intro i v e; simp at e
  | cons x t r ih =>
    intro i v e
    cases i with
    | zero => simp at e; exact ⟨x, t, by simp, e.symm⟩
    | succ i =>
      rw [List.getElem?_cons_succ] at e
      obtain ⟨k, u, h1, h2⟩ := ih i v e
      exact ⟨k, u, by rw [List.getElem?_cons_succ]; exact h1, h2⟩
theorem StrsAre.len {vs : List Value} {xs : List Str} (h : StrsAre vs xs) : vs.length = xs.length := by
  induction h with
  | nil => rfl
  | cons x t r ih => rw [List.length_cons, List.length_cons, ih]
set_option maxRecDepth 100000 in
set_option maxHeartbeats 3200000 in
theorem call_set_txs {l : Addr} {items : Array Value} (xs : List Str) {Q : Value → Shared → Prop} (hh : A.handled = none) (hl : s.heap.IsList l items) (hit : StrsAre items.toList xs) (hb : xs.length + 1 < scanBound)
    (h : ∀ (h' : Heap) (tk c : Nat), TxSet w h' s.heap.objs.size (fun j => j ∈ xs) c → c ≤ xs.length → (∀ b o, s.heap.get? b = some o → h'.get? b = some o) → Q (.ref s.heap.objs.size) { s with heap := h', toks := tk }) :
    wpAny (model P w) A (call (.type "set") [.ref l]) Q E s := by
  have hisz : items.size = xs.length := by
    have q := StrsAre.len hit
    rw [Array.length_toList] at q
    exact q
  obtain ⟨c, tl, hmro⟩ := F.called_set.mro
  have hmade := F.called_set.made
  have hsub := F.called_set.sub
  refine wpAny_call (codeAny_of_tree ?_)
  show wpAny _ _ (callAny (.type "set") _) _ _ _
  refine wpAny_pure ⟨Code.quiet_builtin _ (by decide +kernel), codeAny_builtin F.entry_type_call ?_⟩
  rw [Around.under_plain (weight_type_call_type "set" [.ref l] []) rfl]
  have h1 := F.called_set.notType
  have h2 := F.called_set.canCreate
  have hct := F.typeCall_set_1 (.ref l)
  repeat (any_goals (first | assumption | wp_step))
  refine codeAny_mono (code_set_led1 (.ref l) (E := E) (Q₁ := fun obj s₁ => obj = .ref s.heap.objs.size ∧ s₁ = { s with heap := s.heap.push (fresh0 w) }) ⟨rfl, rfl⟩) fun r s₁ hr => ?_
  cases r with
  | error e => exact hr
  | ok fl =>
    cases fl with
    | ret obj =>
      obtain ⟨rfl, rfl⟩ := hr
      have hS : (s.heap.push (fresh0 w)).get? s.heap.objs.size = some (fresh0 w) := Heap.get?_push_size _ rfl
      have hT : Shared.TypeIs { s with heap := s.heap.push (fresh0 w) } (.ref s.heap.objs.size) "set" := ⟨_, hS, rfl⟩
      have hli := F.called_set.init.lookup
      have hbi := F.called_set.init.bind (.ref s.heap.objs.size)
      repeat (any_goals (first | assumption | wp_step))
      refine codeAny_mono (codeAny_call_builtin (R := wants (fun r s₂ => r = .none ∧ ∃ h' tk c, s₂ = { s with heap := h', toks := tk } ∧ TxSet w h' s.heap.objs.size (fun j => j ∈ xs) c ∧ c ≤ xs.length ∧
          (∀ b o, s.heap.get? b = some o → h'.get? b = some o)) E) F.called_set.init.plain F.entry_set_init (check_set_init_1 hT ?_)) fun r₂ s₂ hr₂ => ?_
      · obtain ⟨ol, hol, hcl, nl, hdl⟩ := hl
        obtain ⟨ocls, odict, odata, oslots⟩ := ol
        simp only at hcl hdl
        subst hcl; subst hdl
        have hol' : (s.heap.push (fresh0 w)).get? l = some { cls := .type "list", dict := odict, data := .seq items nl, slots := oslots } := Heap.get?_push_of_some _ hol
        have hsls := F.sub_list_set
        have hslf := F.sub_list_frozenset
        have hne : (Value.type "list" == Value.type "dict") = false := by decide
        have hl1 : (s.heap.push (fresh0 w)).IsList l items := ⟨_, hol', rfl, nl, rfl⟩
        unfold Builtin.«set.__init__» noKeywords Builtin.Frozenset.updateFrom
        generalize hPI : pyIter = PI
        wp_walk
        subst hPI
        refine wpAny_pyIter_list hl1 (wpAny_bind (wpAny_runValue ?_))
        have hlS : l < s.heap.objs.size := Heap.lt_size hol
        have hh3 : A.in1.in1.in1.handled = none := by simp [hh]
        have hneI : l ≠ (s.heap.push (fresh0 w)).objs.size := by
          rw [Heap.size_push]; exact Nat.ne_of_lt (Nat.lt_succ_of_lt hlS)
        have hSf : s.heap.objs.size ∉ [(s.heap.push (fresh0 w)).objs.size, l] := by
          rw [Heap.size_push]; simp only [List.mem_cons, List.mem_singleton, List.not_mem_nil, or_false, not_or]
          exact ⟨Nat.ne_of_lt (Nat.lt_succ_self _), Nat.ne_of_gt hlS⟩
        have hval : ∀ (i : Nat) (v : Value), items[i]? = some v → ∃ k t, xs[i]? = some k ∧ v = .str k t := fun i v hv => StrsAre.tx_at hit i v (by rw [Array.getElem?_toList]; exact hv)
        refine tx_update ((Walks.list hh3 _ l hneI items).toS) s.heap.objs.size
          hSf xs hisz hb hval (items.size - 0) 0 _ (by omega) (Nat.zero_le _)
          ⟨⟨_, Heap.get?_push_size _ rfl, rfl, rfl⟩, (hl1.push _)⟩ ?hS0 ?hR
        case hS0 => exact ⟨0, Nat.le_refl 0, (tx_none (Heap.get?_push_of_some _ hS)).alike fun k => by simp⟩
        case hR =>
          intro s' c' hm hc' hS'
          obtain ⟨h', g2, d', tk', os'⟩ := s'
          have eg : g2 = s.gens := hm.gens
          have ed : d' = s.drawn := hm.drawn
          have eo : os' = s.os := hm.os
          subst eg; subst ed; subst eo
          show wpAny _ _ _ _ _ _
          refine wpAny_pure ?_
          show wpAny _ _ (ret Value.none) _ _ _
          rw [hisz] at hc'
          refine wpAny_pure ⟨rfl, h', tk', c', rfl, hS', hc', fun b o e => ?_⟩
          have hb0 : b < s.heap.objs.size := Heap.lt_size e
          have hb1 : b ≠ s.heap.objs.size := Nat.ne_of_lt hb0
          have hb2 : b ≠ (s.heap.push (fresh0 w)).objs.size := by
            rw [Heap.size_push]; exact Nat.ne_of_lt (Nat.lt_succ_of_lt hb0)
          exact hm.heap b o (by simp only [List.mem_cons, List.mem_singleton, List.not_mem_nil, or_false, not_or]; exact ⟨hb1, hb2⟩) (Heap.get?_push_of_some _ (Heap.get?_push_of_some _ e))
      · cases r₂ with
        | error e => exact hr₂
        | ok fl₂ =>
          cases fl₂ with
          | ret r =>
            obtain ⟨rfl, h', tk, c', rfl, hS', hc', hk'⟩ := hr₂
            repeat (any_goals (first | assumption | wp_step))
            exact h _ _ _ hS' hc' hk'
          | _ => exact hr₂.elim
    | _ => exact hr.elim
/-- sorted(d): the members, rising -/
theorem sorted_txs {a : Addr} {M : Str → Prop} {n : Nat} {Q : Value → Shared → Prop} (R : TxSet w s.heap a M n) (hh : A.handled = none)
    (hQ : ∀ s' p (out : Array Value) (c : Nat) (ys : List Str), (∀ b o, s.heap.get? b = some o → s'.heap.get? b = some o) → s'.gens = s.gens → s'.os = s.os → s.heap.objs.size ≤ p →
      s'.heap.get? p = some (seqObj "list" out c) → StrsAre out.toList ys → (ys.Pairwise fun x y => leS x y = true) → ys.Nodup → (∀ k, k ∈ ys ↔ M k) → ys.length = n → Q (.ref p) s') :
    wpAny (model P w) A (call (.builtin "sorted") [.ref a]) Q E s := by
  obtain ⟨o, es, ep, t, ho, hex, hd, g, nd, hm, hb, hf, hn, hr, hl⟩ := R.ex
  refine Calls.call_function_entry kind_sorted plain_sorted entry_sorted (args_sorted1 _) ?_
  unfold Builtin.«sorted»
  refine wpAny_bind (m := checkCount "sorted" 1 1 _) (wpAny_pure ?_)
  refine wpAny_bind (collect_set (A := A.in1) hh ⟨o, ho, hex.1, hd⟩ hf hb hr hl fun s1 vs k1 hz g1 o1 pm => ?_)
  have hvl : vs.length = n := by rw [pm.length_eq, List.length_map, Array.length_toList]; exact hn
  have hall : ∀ v ∈ vs, ∃ k tk, v = Value.str k tk := fun v hv => by
    obtain ⟨e, he, q⟩ := List.mem_map.mp (pm.mem_iff.mp hv)
    obtain ⟨k, tk, h1, _⟩ := g e he
    exact ⟨k, tk, by rw [← q]; exact h1⟩
  have hI : StrsAre vs (vs.map strOf) := strsAre_map vs hall
  have pk : (vs.map strOf).Perm (es.toList.map txK) := by
    have q := pm.map strOf
    rw [List.map_map] at q
    have e : es.toList.map (strOf ∘ fun x => x.2) = es.toList.map txK := List.map_congr_left fun e he => by
      obtain ⟨k, tk, h1, _⟩ := g e he
      show strOf e.2 = txK e
      unfold txK
      rw [h1]; rfl
    rw [e] at q
    exact q
  have hz2 : vs.length ≤ sizeLine := by rw [hvl, ← hn]; exact fits_of_scanBound hb
  refine wpAny_bind (wpAny_newList ?_ hz2)
  have hoL : (s1.heap.push (seqObj "list" vs.toArray 0)).get? s1.heap.objs.size = some (seqObj "list" vs.toArray 0) := Heap.get?_push_size _ rfl
  refine wpAny_bind (wpAny_holding (wpAny_call_entry slot_list_sort ⟨_, hoL, rfl⟩ entry_list_sort (SrtO.list_sort_ord AwS.swo_tx hoL hz2 (fun h2 => AwS.tx_sortable hI h2) fun out a1 a2 => ⟨_, rfl, ?_⟩) (args_list_sort _)))
  obtain ⟨c, hc⟩ := sortedHeap_at (vs := vs) (out := out.toArray) hoL
  have hp := a2.perm
  have ho2 : StrsAre out (out.map strOf) := strsAre_map out fun v hv => hall v (hp.mem_iff.mp hv)
  have pn : (out.map strOf).Perm (es.toList.map txK) := (hp.map strOf).trans pk
  refine wpAny_pure ⟨_, rfl, hQ _ s1.heap.objs.size out.toArray c (out.map strOf) (fun b u e => ?_) g1 o1 hz hc ho2 ?_ (pn.nodup_iff.mpr nd) (fun k => by rw [pn.mem_iff, hm k]) ?_⟩
  · have q := k1 b u e
    have hlt := Heap.lt_size q
    show (sortedHeap (s1.heap.push (seqObj "list" vs.toArray 0)) s1.heap.objs.size vs out.toArray).get? b = some u
    rw [sortedHeap_old (Nat.ne_of_lt hlt) (by rw [size_push']; exact Nat.lt_succ_of_lt hlt)]
    exact Heap.get?_push_of_some _ q
  · rw [List.pairwise_map]
    refine a1.imp_of_mem fun {x y} hx hy h => ?_
    obtain ⟨z, t, rfl⟩ := hall x (hp.mem_iff.mp hx)
    obtain ⟨z', t', rfl⟩ := hall y (hp.mem_iff.mp hy)
    show leS z z' = true
    unfold leS
    have h : decide (z'.cps.toList < z.cps.toList) = false := h
    rw [h]; rfl
  · rw [pn.length_eq, List.length_map, Array.length_toList]; exact hn
end
/-! ### the rules -/
/-- the set of the texts xs at a -/
def txSO (w : World) (a : Addr) (xs : List Str) : HO := .ext fun h => ∃ c, TxSet w h a (fun j => j ∈ xs) c
theorem txSO_ok {w : World} {P : Program} {H : Hp} {h : Heap} {a : Addr} {xs : List Str} {c : Nat} (R : TxSet w h a (fun j => j ∈ xs) c) : ObjOk P w H h a (txSO w a xs) := by
  have ⟨o, _, _, _, ho, _⟩ := R.ex
  exact ⟨⟨c, R⟩, ⟨o, ho⟩, fun h1 h2 ⟨d, p⟩ k => ⟨d, p.keep k⟩⟩
def rSetT (K : PySem.W.Frag) (w : World) : List V → Hp → VK → Prop := fun vs H Q => ∃ (a : Addr) (xs : List Str), vs = [.ref a] ∧ SqL K H a (xs.map V.str) ∧ xs.length ≤ 4000 ∧ ∀ p, H p = none → Q (.ref p) (upd H p (txSO w p xs))
theorem cr_setT {X : Cx} (hc : X.calm = true) : CallR X (.type "set") (rSetT X.K X.w) := by
  intro pins s σ H vs us Q I r h
  obtain ⟨a, xs, rfl, hs, hl, q⟩ := h
  obtain ⟨its, rv, hli, hz⟩ := I.list hs
  rw [Vals.ref1 r]
  have hi : StrsAre its xs := rv.strs
  refine call_set_txs xs (I.ok.hd hc) hli.isList (by simpa using hi) (by unfold scanBound; omega) fun h' tk c R hc' hk => ?_
  exact ⟨.ref _, upd H s.heap.objs.size (txSO X.w s.heap.objs.size xs), I.laid (t' := tk) hk (Nat.le_refl _) (txSO_ok R), rfl, q _ (I.hok.fresh (Nat.le_refl _))⟩
def rSortS2 (w : World) : List V → Hp → VK → Prop := fun vs H Q => ∃ (a : Addr) (xs : List Str), vs = [.ref a] ∧ H a = some (txSO w a xs) ∧
  ∀ (ys : List Str) p, (ys.Pairwise fun x y => leS x y = true) → ys.Nodup → (∀ k, k ∈ ys ↔ k ∈ xs) → H p = none → Q (.ref p) (upd H p (.lst (ys.map V.str)))
theorem cr_sortS2 {X : Cx} (hc : X.calm = true) : CallR X (.builtin "sorted") (rSortS2 X.w) := by
  intro pins s σ H vs us Q I r h
  obtain ⟨a, xs, rfl, ha, q⟩ := h
  obtain ⟨⟨c, R⟩, _⟩ := I.hok a _ ha
  rw [Vals.ref1 r]
  refine sorted_txs R (I.ok.hd hc) fun s' p out c' ys hk hg ho hp hout hys pw nd hm hl => ?_
  have hlen : (ys.map V.str).length ≤ sizeLine := by
    obtain ⟨_, es, _, _, _, _, _, _, _, _, hb, _, hn, _⟩ := R.ex
    rw [List.length_map, hl, ← hn]
    exact fits_of_scanBound hb
  have e : out.toList.toArray = out := by simp
  have hn : H p = none := I.hok.fresh hp
  have J : Inv X pins σ (upd H p (.lst (ys.map V.str))) { s with heap := s'.heap, gens := s'.gens, drawn := s'.drawn, toks := s'.toks } :=
    I.call (ch := []) (Un.laid hk hp hn) (I.hok.laid hk hp ⟨hlen, out.toList, c', vals_of_strs hys, by rw [e]; exact hout⟩) (by rw [hg]; exact I.bare) (fun _ z => nomatch z)
  have e2 : s' = { s with heap := s'.heap, gens := s'.gens, drawn := s'.drawn, toks := s'.toks } := by
    cases s'
    cases s
    cases ho
    rfl
  rw [e2]
  exact ⟨.ref p, _, J, rfl, q ys p pw nd hm hn⟩
theorem call_setTU {X : Cx} (K : PySem.W.Frag) (w : World) (hc : X.calm = true) (h : X.K = K := by rfl) (h2 : X.w = w := by rfl) : CallR X (.type "set") (rSetT K w) := by
  subst h h2
  exact cr_setT hc
theorem call_sortS2U {X : Cx} (w : World) (hc : X.calm = true) (h2 : X.w = w := by rfl) : CallR X (.builtin "sorted") (rSortS2 w) := by
  subst h2
  exact cr_sortS2 hc
theorem i_setT {K : PySem.W.Frag} {w : World} {H : Hp} {Q : VK} {a : Addr} {xs : List Str} (s : SqL K H a (xs.map V.str)) (l : xs.length ≤ 4000) (q : ∀ p H', H p = none → Same H H' → H' p = some (txSO w p xs) → Q (.ref p) H') : rSetT K w [.ref a] H Q :=
  ⟨a, xs, rfl, s, l, fun p hp => q p _ hp (same_new hp _) upd_same⟩
/-- what is met, each once -/
def onceL : List Str → List Str
  | [] => []
  | x :: r => if x ∈ r then onceL r else x :: onceL r
theorem onceL_mem {k : Str} : ∀ {l : List Str}, k ∈ onceL l ↔ k ∈ l
  | [] => Iff.rfl
  | x :: r => by
    unfold onceL
    by_cases h : x ∈ r
    · rw [if_pos h, onceL_mem, List.mem_cons]
      exact ⟨.inr, fun z => z.elim (fun e => e ▸ h) id⟩
    · rw [if_neg h, List.mem_cons, List.mem_cons, onceL_mem]
theorem onceL_nd : ∀ l : List Str, (onceL l).Nodup
  | [] => List.nodup_nil
  | x :: r => by
    unfold onceL
    by_cases h : x ∈ r
    · rw [if_pos h]; exact onceL_nd r
    · rw [if_neg h]; exact List.nodup_cons.mpr ⟨fun z => h (onceL_mem.mp z), onceL_nd r⟩
theorem nodup_perm {l m : List Str} (h1 : l.Nodup) (h2 : m.Nodup) (h : ∀ k, k ∈ l ↔ k ∈ m) : l.Perm m := (List.perm_ext_iff_of_nodup h1 h2).mpr h
/-- rising, each once -/
def srtO (l : List Str) : List Str := srtN (onceL l)
theorem srtO_of {l ys : List Str} (pw : ys.Pairwise fun x y => leS x y = true) (nd : ys.Nodup) (h : ∀ k, k ∈ ys ↔ k ∈ l) : ys = srtO l := srtN_unique (nodup_perm nd (onceL_nd l) fun k => (h k).trans onceL_mem.symm) pw
theorem srtO_nd {l : List Str} (nd : l.Nodup) : srtN l = srtO l := srtO_of (srtN_pw l) ((srtN_perm l).nodup_iff.mpr nd) fun k => (srtN_perm l).mem_iff
theorem srtO_congr {l m : List Str} (h : ∀ k, k ∈ l ↔ k ∈ m) : srtO l = srtO m := by
  refine srtO_of (srtN_pw _) ((srtN_perm _).nodup_iff.mpr (onceL_nd l)) fun k => ?_
  rw [srtO, (srtN_perm _).mem_iff, onceL_mem]
  exact h k
theorem i_sortS2 {w : World} {H : Hp} {Q : VK} {a : Addr} {xs : List Str} (s : H a = some (txSO w a xs)) (q : ∀ p H', H p = none → Same H H' → H' p = some (.lst ((srtO xs).map V.str)) → Q (.ref p) H') : rSortS2 w [.ref a] H Q :=
  ⟨a, xs, rfl, s, fun ys p pw nd hm hp => by rw [srtO_of pw nd hm]; exact q p _ hp (same_new hp _) upd_same⟩
end Aw

/-! feet, in plain Lean; dicts that hold True -/
namespace Aw
open PySem PySem.Spec PyProof.Rows L2
/-! ### put once -/
section
variable {α : Type} [DecidableEq α]
def putO (l : List α) (x : α) : List α := if x ∈ l then l else l ++ [x]
theorem putO_mem {l : List α} {x k : α} : k ∈ putO l x ↔ k ∈ l ∨ k = x := by
  unfold putO
  by_cases h : x ∈ l
  · rw [if_pos h]
    exact ⟨.inl, fun z => z.elim id fun e => e ▸ h⟩
  · rw [if_neg h, List.mem_append, List.mem_singleton]
theorem putO_nd {l : List α} {x : α} (h : l.Nodup) : (putO l x).Nodup := by
  unfold putO
  by_cases hx : x ∈ l
  · rw [if_pos hx]; exact h
  · rw [if_neg hx, List.nodup_append]
    refine ⟨h, by simp, fun a ha b hb => ?_⟩
    rw [List.mem_singleton.mp hb]
    intro e
    exact hx (e ▸ ha)
theorem putO_len {l : List α} {x : α} : (putO l x).length ≤ l.length + 1 := by
  unfold putO
  by_cases hx : x ∈ l
  · rw [if_pos hx]; omega
  · rw [if_neg hx, List.length_append]; simp
end
/-! ### dicts -/
def tkv (l : List Str) : List (Key × V) := l.map fun n => (Sum.inr n, .bl true)
def tkt (l : List (Str × Str)) : List (List Key × V) := l.map fun p => ([Sum.inr p.1, Sum.inr p.2], .bl true)
theorem tkv_put (l : List Str) (x : Str) : putK (tkv l) (Sum.inr x : Key) (.bl true) = tkv (putO l x) := by
  unfold putK putO tkv
  by_cases h : x ∈ l
  · have e : ((l.map fun n => ((Sum.inr n : Key), V.bl true)).any fun kv => decide (kv.1 = (Sum.inr x : Key))) = true := by
      rw [List.any_map, List.any_eq_true]
      exact ⟨x, h, by simp⟩
    rw [if_pos e, if_pos h, List.map_map]
    refine List.map_congr_left fun n _ => ?_
    show (if (Sum.inr n : Key) = Sum.inr x then ((Sum.inr n : Key), V.bl true) else (Sum.inr n, V.bl true)) = _
    by_cases c : (Sum.inr n : Key) = Sum.inr x
    · rw [if_pos c]
    · rw [if_neg c]
  · have e : ¬ ((l.map fun n => ((Sum.inr n : Key), V.bl true)).any fun kv => decide (kv.1 = (Sum.inr x : Key))) = true := by
      rw [List.any_map, List.any_eq_true]
      rintro ⟨n, hn, c⟩
      have c : (Sum.inr n : Key) = Sum.inr x := of_decide_eq_true c
      injection c with c
      exact h (c ▸ hn)
    rw [if_neg e, if_neg h, List.map_append]
    rfl
theorem tkt_put (l : List (Str × Str)) (x : Str × Str) : putK (tkt l) ([Sum.inr x.1, Sum.inr x.2] : List Key) (.bl true) = tkt (putO l x) := by
  have inj : ∀ p : Str × Str, ([Sum.inr p.1, Sum.inr p.2] : List Key) = [Sum.inr x.1, Sum.inr x.2] → p = x := fun p e => by
    injection e with e1 e2
    injection e1 with e1
    injection e2 with e2 _
    injection e2 with e2
    exact Prod.ext e1 e2
  unfold putK putO tkt
  by_cases h : x ∈ l
  · have e : ((l.map fun p => (([Sum.inr p.1, Sum.inr p.2] : List Key), V.bl true)).any fun kv => decide (kv.1 = ([Sum.inr x.1, Sum.inr x.2] : List Key))) = true := by
      rw [List.any_map, List.any_eq_true]
      exact ⟨x, h, by simp⟩
    rw [if_pos e, if_pos h, List.map_map]
    refine List.map_congr_left fun p _ => ?_
    show (if ([Sum.inr p.1, Sum.inr p.2] : List Key) = [Sum.inr x.1, Sum.inr x.2] then (([Sum.inr p.1, Sum.inr p.2] : List Key), V.bl true) else ([Sum.inr p.1, Sum.inr p.2], V.bl true)) = _
    by_cases c : ([Sum.inr p.1, Sum.inr p.2] : List Key) = [Sum.inr x.1, Sum.inr x.2]
    · rw [if_pos c]
    · rw [if_neg c]
  · have e : ¬ ((l.map fun p => (([Sum.inr p.1, Sum.inr p.2] : List Key), V.bl true)).any fun kv => decide (kv.1 = ([Sum.inr x.1, Sum.inr x.2] : List Key))) = true := by
      rw [List.any_map, List.any_eq_true]
      rintro ⟨p, hp, c⟩
      exact h (inj p (of_decide_eq_true c) ▸ hp)
    rw [if_neg e, if_neg h, List.map_append]
    rfl
theorem tkv_keys (l : List Str) : ((tkv l).map fun kv => kV kv.1) = l.map V.str := by unfold tkv; rw [List.map_map]; rfl
section
variable {K : PySem.W.Frag} {H : Hp} {Q : VK} {a b : Addr} {v : V} {σ : L2.St}
theorem i_dpt {k z : Str} {l : List (Str × Str)} {R : Hp → Prop} (e : H a = some (.dT (tkt l))) (eb : H b = some (.tup [.str k, .str z])) (hl : l.length < sizeLine) (q : ∀ H', Bt a H H' → H' a = some (.dT (tkt (putO l (k, z)))) → R H') : DPK (.bl true) (.ref a) (.ref b) H R :=
  ⟨a, _, rfl, DPut.t (k := [Sum.inr k, Sum.inr z]) e eb (by unfold tkt; rw [List.length_map]; exact hl), q _ Bt.upd (by rw [← tkt_put]; exact upd_same)⟩
theorem i_dpn {z : Str} {l : List Str} {R : Hp → Prop} (e : H a = some (.dK (tkv l))) (hl : l.length < sizeLine) (q : ∀ H', Bt a H H' → H' a = some (.dK (tkv (putO l z))) → R H') : DPK (.bl true) (.ref a) (.str z) H R :=
  i_dpk e (by unfold tkv; rw [List.length_map]; exact hl) fun H' b h => q H' b (by rw [← tkv_put]; exact h)
theorem i_dnewT (q : ∀ p H', H p = none → Same H H' → H' p = some (.dT []) → Q (.ref p) H') : tDNewT σ H Q := fun p hp => q p _ hp (same_new hp _) upd_same
def rListDt : List V → Hp → VK → Prop := fun xs H Q => ∃ d kvs, xs = [V.ref d] ∧ Rd H d (.dT kvs) ∧ ∀ p bs, H p = none → IsKeys H kvs bs → Q (.ref p) (upd H p (.lst (bs.map V.ref)))
theorem call_listDt {X : Cx} (hc : X.calm = true) : CallR X (.type "list") rListDt := call_list_dT hc
theorem keys_kz : ∀ {l : List (Str × Str)} {bs : List Addr}, IsKeys H (tkt l) bs → Dts K H (l.map kzPy) (bs.map V.ref)
  | [], _, h => by
    unfold IsKeys tkt at h
    cases h
    exact dts_nil
  | p :: r, _, h => by
    unfold IsKeys tkt at h
    rw [List.map_cons] at h
    cases h with
    | cons h1 h2 => exact dts_cons (dt_tupX h1 (dts_cons dt_str (dts_cons dt_str dts_nil))) (keys_kz (l := r) h2)
theorem i_listDt {l : List (Str × Str)} (e : H a = some (.dT (tkt l))) (q : ∀ p H' xs, H p = none → Same H H' → H' p = some (.lst xs) → Dts K H' (l.map kzPy) xs → Q (.ref p) H') : rListDt [.ref a] H Q :=
  ⟨a, _, rfl, .inl e, fun p bs hp hk => q p _ _ hp (same_new hp _) upd_same ((keys_kz (K := K) hk).mono (.same (same_new hp _)))⟩
/-- {n: True} -/
theorem i_disp1 {z : Str} {tk tv : TE} (hk : ∀ H Q, Q (.str z) H → tk σ H Q) (hv : ∀ H Q, Q (.bl true) H → tv σ H Q) (q : ∀ p H', H p = none → Same H H' → H' p = some (.dK (tkv [z])) → Q (.ref p) H') : tDisp [(tk, tv)] σ H Q := by
  intro p hp
  refine hk _ _ (hv _ _ ⟨upd_same, [(Sum.inr z, .bl true)], rfl, by simp, ?_⟩)
  have e : upd (upd H p (.dK [])) p (.dK (mergeK [] [(Sum.inr z, .bl true)])) = upd H p (.dK (tkv [z])) := by
    rw [show mergeK [] [((Sum.inr z : Key), V.bl true)] = tkv [z] from rfl]
    funext x
    unfold upd
    by_cases h : x = p
    · simp [h]
    · simp [h]
  rw [e]
  exact q p _ hp (same_new hp _) upd_same
end
theorem Stay.butT {H H' : Hp} {l : Addr} {kvs : List (List Key × V)} (a : Bt l H H') (h : H l = some (.dT kvs)) : Stay H H' := ⟨fun b ys e => a.ne h e (fun z => nomatch z), fun b o u e => a.ne h e (fun z => nomatch z)⟩
section
variable {K : PySem.W.Frag}
theorem Dt.trip {H : Hp} {a b c : PyData} {v : V} (h : Dt K H (.tuple [a, b, c]) v) : ∃ p x y z, v = .ref p ∧ SqT K H p [x, y, z] ∧ Dt K H a x ∧ Dt K H b y ∧ Dt K H c z := by
  obtain ⟨p, xs, e, s, q⟩ := h.tup
  obtain ⟨x, r, rfl, qx, q⟩ := q.cons
  obtain ⟨y, r, rfl, qy, q⟩ := q.cons
  obtain ⟨z, r, rfl, qz, q⟩ := q.cons
  rw [q.nil] at s
  exact ⟨p, x, y, z, e, s, qx, qy, qz⟩
end
/-! ### feet -/
abbrev Foot := List Str × List (Str × Str)
def isTR (a : Asked) : Bool := decide (a.1 = "thing") || decide (a.1 = "rule")
def footStep (f : Foot) (a : Asked) : Foot := if isTR a = true then (putO f.1 a.2.1, f.2) else (f.1, putO f.2 (a.1, a.2.1))
def footRun (f : Foot) (p : Str × Run) : Foot := p.2.1.foldl footStep (putO f.1 p.1, f.2)
def footOf (ps : Runs) (z : Str) : Foot := ps.foldl footRun ([z], [])
/-- all names, all looks, in order -/
def allN (ps : Runs) : List Str := ps.flatMap fun p => p.1 :: (p.2.1.filter isTR).map (·.2.1)
def allL (ps : Runs) : List Asked := ps.flatMap fun p => p.2.1.filter fun a => !isTR a
theorem in_tr {a : Asked} (h : FAskOk a) : inV (V.str a.1) [V.str "thing", V.str "rule"] = isTR a := by
  unfold isTR
  rcases h.k with e | e | e | e <;> rw [e] <;> decide +kernel
theorem steps_mem : ∀ (as : List Asked) (f : Foot) (k : Str), k ∈ (as.foldl footStep f).1 ↔ k ∈ f.1 ∨ k ∈ (as.filter isTR).map (·.2.1)
  | [], f, k => by simp
  | a :: r, f, k => by
    rw [List.foldl_cons, steps_mem r]
    unfold footStep
    cases h : isTR a with
    | true => rw [if_pos rfl, List.filter_cons_of_pos h, putO_mem, List.map_cons, List.mem_cons, or_assoc]
    | false => rw [if_neg (by decide), List.filter_cons_of_neg (by rw [h]; decide)]
theorem foot_mem : ∀ (ps : Runs) (f : Foot) (k : Str), k ∈ (ps.foldl footRun f).1 ↔ k ∈ f.1 ∨ k ∈ allN ps
  | [], f, k => by simp [allN]
  | p :: r, f, k => by
    rw [List.foldl_cons, foot_mem r]
    unfold footRun allN
    rw [steps_mem, putO_mem, List.flatMap_cons, List.mem_append, List.mem_cons]
    simp only [or_assoc]
theorem steps_look : ∀ (as : List Asked) (f : Foot), (as.foldl footStep f).2 = (as.filter fun a => !isTR a).foldl (fun l a => putO l (a.1, a.2.1)) f.2
  | [], f => rfl
  | a :: r, f => by
    rw [List.foldl_cons, steps_look r]
    unfold footStep
    cases h : isTR a with
    | true => rw [if_pos rfl, List.filter_cons_of_neg (by rw [h]; decide)]
    | false => rw [if_neg (by decide), List.filter_cons_of_pos (by rw [h]; decide), List.foldl_cons]
theorem foot_look : ∀ (ps : Runs) (f : Foot), (ps.foldl footRun f).2 = (allL ps).foldl (fun l a => putO l (a.1, a.2.1)) f.2
  | [], f => rfl
  | p :: r, f => by
    rw [List.foldl_cons, foot_look r]
    unfold footRun allL
    rw [steps_look, List.flatMap_cons, List.foldl_append]
theorem steps_nd : ∀ (as : List Asked) (f : Foot), f.1.Nodup → f.2.Nodup → (as.foldl footStep f).1.Nodup ∧ (as.foldl footStep f).2.Nodup
  | [], f, h1, h2 => ⟨h1, h2⟩
  | a :: r, f, h1, h2 => by
    rw [List.foldl_cons]
    unfold footStep
    cases h : isTR a with
    | true => rw [if_pos rfl]; exact steps_nd r _ (putO_nd h1) h2
    | false => rw [if_neg (by decide)]; exact steps_nd r _ h1 (putO_nd h2)
theorem foot_nd : ∀ (ps : Runs) (f : Foot), f.1.Nodup → f.2.Nodup → (ps.foldl footRun f).1.Nodup ∧ (ps.foldl footRun f).2.Nodup
  | [], f, h1, h2 => ⟨h1, h2⟩
  | p :: r, f, h1, h2 => by
    rw [List.foldl_cons]
    unfold footRun
    obtain ⟨k1, k2⟩ := steps_nd p.2.1 (putO f.1 p.1, f.2) (putO_nd h1) h2
    exact foot_nd r _ k1 k2
theorem step_len (f : Foot) (a : Asked) : (footStep f a).1.length ≤ f.1.length + 1 ∧ (footStep f a).2.length ≤ f.2.length + 1 := by
  unfold footStep
  cases isTR a with
  | true => rw [if_pos rfl]; exact ⟨putO_len, Nat.le_succ _⟩
  | false => rw [if_neg (by decide)]; exact ⟨Nat.le_succ _, putO_len⟩
theorem steps_len : ∀ (as : List Asked) (f : Foot), (as.foldl footStep f).1.length ≤ f.1.length + as.length ∧ (as.foldl footStep f).2.length ≤ f.2.length + as.length
  | [], f => ⟨Nat.le_refl _, Nat.le_refl _⟩
  | a :: r, f => by
    rw [List.foldl_cons, List.length_cons]
    have h1 := steps_len r (footStep f a)
    have h2 := step_len f a
    omega
theorem run_len {f : Foot} {p : Str × Run} {m : Nat} (h : p.2.1.length ≤ m) : (footRun f p).1.length ≤ f.1.length + (m + 1) ∧ (footRun f p).2.length ≤ f.2.length + (m + 1) := by
  unfold footRun
  have h1 := steps_len p.2.1 (putO f.1 p.1, f.2)
  have h2 := putO_len (l := f.1) (x := p.1)
  dsimp only at h1
  omega
theorem runs_len {m : Nat} : ∀ (ps : Runs) (f : Foot), (∀ p ∈ ps, p.2.1.length ≤ m) → (ps.foldl footRun f).1.length ≤ f.1.length + ps.length * (m + 1) ∧ (ps.foldl footRun f).2.length ≤ f.2.length + ps.length * (m + 1)
  | [], f, _ => ⟨Nat.le_add_right _ _, Nat.le_add_right _ _⟩
  | p :: r, f, h => by
    rw [List.foldl_cons, List.length_cons, Nat.succ_mul]
    have h1 := runs_len r (footRun f p) fun q hq => h q (List.mem_cons_of_mem _ hq)
    have h2 := run_len (f := f) (h p (List.mem_cons_self ..))
    omega
theorem allN_len {m : Nat} : ∀ (ps : Runs), (∀ p ∈ ps, p.2.1.length ≤ m) → (allN ps).length ≤ ps.length * (m + 1)
  | [], _ => Nat.zero_le _
  | p :: r, h => by
    have h1 := allN_len r fun q hq => h q (List.mem_cons_of_mem _ hq)
    have h2 := h p (List.mem_cons_self ..)
    have h3 := List.length_filter_le isTR p.2.1
    unfold allN at h1 ⊢
    rw [List.flatMap_cons, List.length_append, List.length_cons, List.length_map, List.length_cons, Nat.succ_mul]
    omega
theorem looks_len : ∀ (as : List Asked) (L : List (Str × Str)), (as.foldl (fun l a => putO l (a.1, a.2.1)) L).length ≤ L.length + as.length
  | [], L => Nat.le_refl _
  | a :: r, L => by
    rw [List.foldl_cons, List.length_cons]
    have h1 := looks_len r (putO L (a.1, a.2.1))
    have h2 := putO_len (l := L) (x := (a.1, a.2.1))
    omega
theorem looks_mem {q : Str × Str} : ∀ (as : List Asked) (L : List (Str × Str)), q ∈ as.foldl (fun l a => putO l (a.1, a.2.1)) L ↔ q ∈ L ∨ ∃ a ∈ as, q = (a.1, a.2.1)
  | [], L => by simp
  | a :: r, L => by
    rw [List.foldl_cons, looks_mem r, putO_mem]
    constructor
    · rintro ((h | h) | ⟨b, hb, h⟩)
      · exact .inl h
      · exact .inr ⟨a, List.mem_cons_self .., h⟩
      · exact .inr ⟨b, List.mem_cons_of_mem _ hb, h⟩
    · rintro (h | ⟨b, hb, h⟩)
      · exact .inl (.inl h)
      · rcases List.mem_cons.mp hb with rfl | hb
        · exact .inl (.inr h)
        · exact .inr ⟨b, hb, h⟩
/-- a look: its word, its text -/
def KzOk (q : Str × Str) : Prop := (q.1 = "has" ∨ q.1 = "names") ∧ treeOk (.str q.2) = true
theorem kzOk_of {a : Asked} (h : FAskOk a) (t : isTR a = false) : KzOk (a.1, a.2.1) := by
  refine ⟨?_, h.z⟩
  rcases h.k with e | e | e | e
  · unfold isTR at t; rw [e] at t; exact absurd t (by decide)
  · exact .inl e
  · exact .inr e
  · unfold isTR at t; rw [e] at t; exact absurd t (by decide)
theorem foot_looks {ps : Runs} {f : Foot} (h : ∀ p ∈ ps, nameOk p.1 = true ∧ RunOk p.2) (hf : ∀ q ∈ f.2, KzOk q) : ∀ q ∈ (ps.foldl footRun f).2, KzOk q := by
  intro q hq
  rw [foot_look] at hq
  rcases (looks_mem _ _).mp hq with hq | ⟨a, ha, rfl⟩
  · exact hf q hq
  · unfold allL at ha
    obtain ⟨p, hp, ha⟩ := List.mem_flatMap.mp ha
    obtain ⟨ha, t⟩ := List.mem_filter.mp ha
    exact kzOk_of ((h p hp).2.a a ha) (by simpa using t)
theorem kz_cmpOk {q : Str × Str} (h : KzOk q) : cmpOk (kzPy q) := by
  obtain ⟨h1, h2⟩ := h
  have l1 : PyData.canLay0 (.str q.1) = true := by rcases h1 with e | e <;> rw [e] <;> decide +kernel
  have l2 : PyData.canLay0 (.str q.2) = true := good_lay _ (treeOk_good h2).g
  refine ⟨?_, ?_⟩
  · unfold kzPy
    simp only [PyData.canLay0, PyData.canLayAll0] at l1 l2 ⊢
    rw [l1, l2]
    rfl
  · unfold kzPy
    simp only [PyData.depth, PyData.depthAll]
    omega
theorem kz_inj {p q : Str × Str} : PyData.eqv (kzPy p) (kzPy q) = decide (p = q) := by
  have e : PyData.eqv (kzPy p) (kzPy q) = (decide (p.1 = q.1) && decide (p.2 = q.2)) := by
    unfold kzPy
    have b : ∀ x y : Str, (x == y) = decide (x = y) := fun x y => by
      by_cases h : x = y
      · rw [beq_iff_eq.mpr h, decide_eq_true h]
      · rw [beq_eq_false_iff_ne.mpr h, decide_eq_false h]
    simp [PyData.eqv, PyData.eqvAll, b]
  rw [e]
  by_cases h : p = q
  · subst h; simp
  · rw [decide_eq_false h]
    by_cases h1 : p.1 = q.1
    · by_cases h2 : p.2 = q.2
      · exact absurd (Prod.ext h1 h2) h
      · rw [decide_eq_false h2, Bool.and_false]
    · rw [decide_eq_false h1, Bool.false_and]
theorem any_kz {x : Str × Str} {L : List (Str × Str)} : ((L.map kzPy).any fun z => PyData.eqv z (kzPy x)) = decide (x ∈ L) := by
  rw [Bool.eq_iff_iff, List.any_map, List.any_eq_true, decide_eq_true_iff]
  constructor
  · rintro ⟨p, hp, h⟩
    have h : PyData.eqv (kzPy p) (kzPy x) = true := h
    rw [kz_inj] at h
    exact of_decide_eq_true h ▸ hp
  · intro h
    refine ⟨x, h, ?_⟩
    show PyData.eqv (kzPy x) (kzPy x) = true
    rw [kz_inj]
    exact decide_eq_true rfl
def footPy (N : List Str) (L : List (Str × Str)) : PyData := .tuple [.tuple (N.map .str), .tuple (L.map kzPy)]
end Aw

namespace Aw
open PySem PySem.Spec PyProof.Rows L2

local macro_rules | `(tactic| walk_at "rd1") => `(tactic| first
  | ((with_reducible apply i_var); exact rfl)
  | with_reducible refine i_c ?_
  | with_reducible refine i_op ?_
  | with_reducible refine i_un ?_
  | with_reducible refine i_test ?_
  | with_reducible refine i_tB ?_
  | with_reducible refine i_bl ?_
  | with_reducible refine i_and ?_
  | with_reducible refine i_or ?_
  | with_reducible refine i_not ?_
  | with_reducible refine i_andV ?_
  | with_reducible refine i_orV ?_
  | with_reducible refine i_notV ?_
  | with_reducible refine i_if ?_
  | with_reducible refine i_chain ?_
  | with_reducible refine i_nil ?_
  | with_reducible refine i_cons ?_
  | with_reducible refine i_tup ?_
  | with_reducible refine i_lst ?_
  | with_reducible refine i_cb ?_
  | with_reducible refine i_call ?_
  | with_reducible refine i_bm ?_
  | with_reducible refine i_m1 ?_
  | with_reducible refine i_m0 ?_
  | with_reducible refine i_exstr ?_
  | with_reducible refine i_sl ?_
  | with_reducible refine i_nopart ?_
  | with_reducible refine i_part ?_
  | with_reducible refine i_int ?_
  | with_reducible refine i_seq ?_
  | with_reducible refine i_next ?_
  | with_reducible refine i_asg ?_
  | with_reducible refine i_gname ?_
  | with_reducible refine i_ret ?_
  | with_reducible refine i_retN ?_
  | with_reducible refine i_drop ?_
  | with_reducible refine i_ifS ?_
  | with_reducible refine i_break ?_
  | with_reducible refine i_cont ?_
  | ((with_reducible apply i_aug); exact rfl)
  | with_reducible refine i_add_i ?_
  | with_reducible refine i_sub ?_
  | with_reducible refine i_neg ?_
  | with_reducible refine i_ipadd_i ?_
  | with_reducible refine i_ip ?_
  | with_reducible refine i_lt ?_
  | with_reducible refine i_le ?_
  | with_reducible refine i_gt ?_
  | with_reducible refine i_ge ?_
  | with_reducible refine i_lt_s ?_
  | with_reducible refine i_le_s ?_
  | with_reducible refine i_gt_s ?_
  | with_reducible refine i_ge_s ?_
  | with_reducible refine i_isN ?_
  | with_reducible refine i_notN ?_
  | with_reducible refine i_in_c ?_
  | with_reducible refine i_nin_c ?_
  | with_reducible refine i_gsub ?_
  | with_reducible refine i_gcons ?_
  | with_reducible refine i_gnil ?_
  | with_reducible refine i_iList ?_
  | with_reducible refine i_iTup ?_
  | with_reducible refine i_iStr ?_
  | with_reducible refine i_iRng1 ?_
  | with_reducible refine i_lc ?_
  | with_reducible refine i_for ?_
  | with_reducible refine i_yes ?_
  | with_reducible refine i_repl ?_
  | with_reducible refine i_meth ?_
  | with_reducible refine i_fld ?_
  | with_reducible refine i_sfld ?_
  | with_reducible refine i_din ?_
  | with_reducible refine i_dnin ?_
  | with_reducible refine i_dget ?_
  | with_reducible refine i_dput ?_
  | with_reducible refine i_joined ?_
  | with_reducible refine i_callS ?_
  | with_reducible refine i_xf ?_
  | with_reducible refine i_revL ?_
  | with_reducible refine i_items ?_
  | with_reducible refine i_stepL ?_
  | with_reducible refine i_make ?_
  | with_reducible refine i_fmt ?_
  | with_reducible refine i_jcons ?_
  | with_reducible refine i_jnil ?_
  | with_reducible refine i_iEnum ?_
  | with_reducible refine i_faug ?_
  | with_reducible refine i_dget2 ?_
  | with_reducible refine i_kin ?_
  | with_reducible refine i_kix ?_
  | with_reducible refine i_bm0 ?_
  | with_reducible refine i_meth ?_
  | with_reducible refine iteT ?_
  | with_reducible refine iteF ?_
  | with_reducible refine iteNT ?_
  | with_reducible refine iteNF ?_
  | ((with_reducible refine i_len_s ?_ ?_); (first | assumption | exact szl (by assumption)))
  | ((with_reducible refine i_sl_s ?_ ?_); (first | assumption | exact szl (by assumption)))
  | with_reducible refine i_int_b ?_
  | with_reducible refine i_abs ?_
  | with_reducible refine i_min2 ?_
  | with_reducible refine i_eq rfl ?_
  | with_reducible refine i_ne rfl ?_
  | with_reducible refine iteDR ?_
  | with_reducible refine iteRN ?_
  | with_reducible refine iteI1 ?_
  | with_reducible refine iteI2 ?_
  | with_reducible refine iteI3 ?_
  | with_reducible refine iteI4 ?_
  | with_reducible refine iteSN ?_
  | with_reducible refine iteNDR ?_
  | with_reducible refine iteNRN ?_
  | with_reducible refine iteNSN ?_
  | with_reducible refine iteST (by first | rfl | decide) ?_
  | with_reducible refine iteSF (by decide) ?_
  | with_reducible refine iteNST (by first | rfl | decide) ?_
  | with_reducible refine iteNSF (by decide) ?_)
local macro_rules | `(tactic| walk_at "rd") => `(tactic| repeat walk_at "rd1")

abbrev s_foot_of : Stmt := topS 55
theorem sc_foot_of : FnScope ["project", "name", "names", "looked", "met", "asks", "end", "ask", "answer"] ["project", "name"] (defScope s_foot_of) := ⟨rfl, rfl, rfl, by decide +kernel, rfl, by decide +kernel, by decide +kernel⟩
section
variable {P : Program} {w : World} {K : PySem.W.Frag} {mg : Str → Option Value} {base : Heap}
def spFoot (K : PySem.W.Frag) (CP : Addr) : Sp := fun vs H Q _ => ∃ (p : Addr) (prs : Prs) (z : Str), vs = [.ref p, .str z] ∧ IsPr K CP H p prs ∧ PrsOk prs ∧ prs.length ≤ 50 ∧ nameOk z = true ∧
  ∀ H' v (qs : List (Str × Str)), Same H H' → qs.Perm (footOf (paperD prs z) z).2 → (qs.Pairwise fun x y => leK x y = true) → Dt K H' (footPy (srtN (footOf (paperD prs z) z).1) qs) v → Q v H'
theorem ok_foot_of {CP : Addr} (D : Df K mg "foot_of" "foot_of" s_foot_of ["project", "name"]) (B : NoB mg) (C_paper_of : Cal P w K mg base CX0 "paper_of" ["project", "name"] 227 (spPaperOf K CP)) :
    Cal P w K mg base CX0 "foot_of" ["project", "name"] 228 (spFoot K CP) := by
  refine D.cal fun f fd F => F.ok sc_foot_of (fun vs H Q E h => ?_) (fun cdv A outer s H vs Q E hr h => ?_)
  · obtain ⟨_, _, _, rfl, _⟩ := h
    rfl
  · obtain ⟨p, prs, z, rfl, hp, ok, h50, hz, q⟩ := h
    refine ⟨_, (pss_cons (ps_set (i := 2) sc_foot_of.nd rfl (.inl rfl) (pe_disp (pps_cons (pv 1) pe_bl pps_nil) (by rfl) rfl (by simp) (by decide)))
      (pss_cons (ps_set (i := 3) sc_foot_of.nd rfl (.inl rfl) pe_dnewT)
      (pss_cons (ps_for PassesOwn.never rfl (pi_tupU K (pe_cal C_paper_of hr (by rfl) (pa_cons (pv 0) (pa_cons (pv 1) pa_nil)))) (pg_tupU (n := 3) K (by rfl) (pgs_cons (pg_name (i := 4) sc_foot_of.nd rfl (.inl rfl)) (pgs_cons (pg_name (i := 5) sc_foot_of.nd rfl (.inl rfl)) (pgs_cons (pg_name (i := 6) sc_foot_of.nd rfl (.inl rfl)) pgs_nil)))) (pss_cons (ps_dput (hu_of hr) (pv 2) (pv 4) pe_bl rfl)
      (pss_one (ps_for PassesOwn.never rfl (pi_tupU K (pv 5)) (pg_tupU (n := 2) K (by rfl) (pgs_cons (pg_name (i := 7) sc_foot_of.nd rfl (.inl rfl)) (pgs_cons (pg_name (i := 8) sc_foot_of.nd rfl (.inl rfl)) pgs_nil))) (pss_one (ps_if (pt_cmpR (op_inU K) (pe_ix (ix_U K) (pv 7) pe_int (fun _ _ => rfl)) (pe_tup (pa_cons pe_str (pa_cons pe_str pa_nil))) (by with_unfolding_all rfl)) (pss_one (ps_dput (hu_of hr) (pv 2) (pe_ix (ix_U K) (pv 7) pe_int (fun _ _ => rfl)) pe_bl rfl)) (pss_one (ps_dput (hu_of hr) (pv 3) (pv 7) pe_bl rfl))))))))
      (pss_one (ps_ret (pe_tup (pa_cons (pe_callTy (call_tupU K) (by rfl) B.m_tuple (by decide +kernel) (pa_cons (pe_callB (call_sortTU K) (by rfl) B.m_sorted (by decide +kernel) (pa_cons (pe_callTy (call_listDk rfl) (by rfl) B.m_list (by decide +kernel) (pa_cons (pv 2) pa_nil)) pa_nil)) pa_nil)) (pa_cons (pe_callTy (call_tupU K) (by rfl) B.m_tuple (by decide +kernel) (pa_cons (pe_callB (call_sortKzU K) (by rfl) B.m_sorted (by decide +kernel) (pa_cons (pe_callTy (call_listDt rfl) (by rfl) B.m_list (by decide +kernel) (pa_cons (pv 3) pa_nil)) pa_nil)) pa_nil)) pa_nil)))))))), ?_⟩
    obtain ⟨hnd, hin⟩ := met_len ok hz
    have hml : (metBy prs z).length ≤ 50 := by
      have h1 := nodup_len hnd hin
      unfold names at h1
      rw [List.length_map] at h1
      omega
    have hpk := paper_ok ok hz
    walk_at "rd"
    refine i_disp1 (z := z) (fun H Q q => ?_) (fun H Q q => ?_) fun dn H1 n1 s1 e1 => ?_
    · walk_at "rd"
      exact q
    · walk_at "rd"
      exact q
    walk_at "rd"
    refine i_dnewT fun dl H2 n2 s2 e2 => ?_
    walk_at "rd"
    have s12 := s1.trans s2
    refine ⟨p, prs, z, rfl, hp.same s12, ok, h50, hz, fun H3 v s3 hv => ?_⟩
    have s13 := s12.trans s3
    have n2' : H dl = none := none_back s1 n2
    obtain ⟨a, xs, rfl, hs, hq⟩ := hv.tup
    have hlen := hq.length
    rw [List.length_map] at hlen
    have hpl : (paperD prs z).length = (metBy prs z).length := by unfold paperD; rw [List.length_map]
    have h3n := s3 _ _ (s2 _ _ e1)
    have h3l := s3 _ _ e2
    refine f_tup hs (fun i σ H4 => ∃ (f : Foot) (y1 y2 y3 y4 y5 : Option V), σ = [some (.ref p), some (.str z), some (.ref dn), some (.ref dl), y1, y2, y3, y4, y5] ∧ Fr [dn, dl] H3 H4 ∧ Stay H3 H4 ∧ H4 dn = some (.dK (tkv f.1)) ∧ H4 dl = some (.dT (tkt f.2)) ∧ f = ((paperD prs z).take i).foldl footRun ([z], [])) ?_ ?_ ?_ ?_
    · exact ⟨([z], []), none, none, none, none, none, rfl, .refl _ _, .refl _, h3n, h3l, rfl⟩
    · rintro i σ H4 _ ⟨f, y1, y2, y3, y4, y5, rfl, f4, t4, _⟩
      exact sqT_tt t4 hs
    · rintro i x σ H4 hx ⟨f, y1, y2, y3, y4, y5, rfl, f4, t4, en4, el4, hf⟩
      obtain ⟨d, hdi, hdx⟩ := hq.get hx
      rw [List.getElem?_map] at hdi
      cases hpi : (paperD prs z)[i]? with
      | none => rw [hpi] at hdi; cases hdi
      | some st =>
      rw [hpi] at hdi
      cases (Option.some.inj hdi)
      have hil := (List.getElem?_eq_some_iff.mp hpi).1
      obtain ⟨hmn, hro⟩ := hpk st (List.mem_of_getElem? hpi)
      have hflen : f.1.length ≤ 16000 ∧ f.2.length ≤ 16000 := by
        have h1 := runs_len (m := 301) ((paperD prs z).take i) ([z], []) fun q hq => (hpk q (List.mem_of_mem_take hq)).2.n
        rw [← hf, List.length_take] at h1
        have h2 : min i (paperD prs z).length * (301 + 1) ≤ 50 * (301 + 1) := Nat.mul_le_mul_right _ (by omega)
        simp only [List.length_cons, List.length_nil] at h1
        omega
      obtain ⟨t, w1, w2, w3, rfl, ht, hw1, hw2, hw3⟩ := Dt.trip (show Dt K H4 (.tuple [.str st.1, .tuple (st.2.1.map Asked.py), st.2.2.py]) x from hdx.mono t4)
      have e := hw1.str
      subst e
      refine i_gtup ht rfl ?_
      walk_at "rd"
      refine i_dpn en4 (szlt (by omega)) fun H5 b5 e5 => ?_
      have el5 := b5.ne en4 el4 (fun z => nomatch z)
      have t5 : Stay H4 H5 := .butD b5 en4
      have f5 : Fr [dn, dl] H4 H5 := .bt b5 (by simp)
      walk_at "rd"
      obtain ⟨aa, axs, rfl, haa, haq⟩ := hw2.tup
      have hal := haq.length
      rw [List.length_map] at hal
      have hrn := hro.n
      refine f_tup (sqT_tt t5 haa) (fun j σ H6 => ∃ (g : Foot) (y4 y5 : Option V), σ = [some (.ref p), some (.str z), some (.ref dn), some (.ref dl), some (.str st.1), some (.ref aa), some w3, y4, y5] ∧ Fr [dn, dl] H5 H6 ∧ Stay H5 H6 ∧ H6 dn = some (.dK (tkv g.1)) ∧ H6 dl = some (.dT (tkt g.2)) ∧ g = (st.2.1.take j).foldl footStep (putO f.1 st.1, f.2)) ?_ ?_ ?_ ?_
      · exact ⟨(putO f.1 st.1, f.2), _, _, rfl, .refl _ _, .refl _, e5, el5, rfl⟩
      · rintro j σ H6 _ ⟨g, y4, y5, rfl, f6, t6, _⟩
        exact sqT_tt (t5.trans t6) haa
      · rintro j x σ H6 hx6 ⟨g, y4, y5, rfl, f6, t6, en6, el6, hg⟩
        obtain ⟨d6, hdi6, hdx6⟩ := haq.get hx6
        rw [List.getElem?_map] at hdi6
        cases haj : st.2.1[j]? with
        | none => rw [haj] at hdi6; cases hdi6
        | some ak =>
        rw [haj] at hdi6
        cases (Option.some.inj hdi6)
        have hjl := (List.getElem?_eq_some_iff.mp haj).1
        have hak := hro.a ak (List.mem_of_getElem? haj)
        have hglen : g.1.length ≤ 17000 ∧ g.2.length ≤ 17000 := by
          have h1 := steps_len (st.2.1.take j) (putO f.1 st.1, f.2)
          rw [← hg, List.length_take] at h1
          have h2 := putO_len (l := f.1) (x := st.1)
          dsimp only at h1
          omega
        obtain ⟨t6a, u1, u2, rfl, ht6, hu1, hu2⟩ := Dt.pair (show Dt K H6 (.tuple [.tuple [.str ak.1, .str ak.2.1], ansPy ak.2.2]) x from hdx6.mono (t5.trans t6))
        obtain ⟨ba, k1, k2, rfl, hba, hk1, hk2⟩ := Dt.pairX hu1
        have e := hk1.str
        subst e
        have e := hk2.str
        subst e
        refine i_gtup ht6 rfl ?_
        walk_at "rd"
        refine i_ix_t (SqT.mk hba) (atI_nat (j := 0) rfl) ?_
        walk_at "rd"
        refine i_new_t (by show 2 ≤ sizeLine; decide) fun t7 H7 n7 s7 e7 => ?_
        refine i_in_t (.inl (.inl e7)) rfl rfl ?_
        rw [in_tr hak]
        have en7 := s7 _ _ en6
        have el7 := s7 _ _ el6
        have hnext : footStep g ak = (st.2.1.take (j + 1)).foldl footStep (putO f.1 st.1, f.2) := by
          rw [take_snoc haj, List.foldl_append, ← hg]
          rfl
        cases htr : isTR ak with
        | true =>
          walk_at "rd"
          refine i_ix_t (SqT.mk (s7 _ _ hba)) (atI_nat (j := 1) rfl) ?_
          refine i_dpn en7 (szlt (by omega)) fun H8 b8 e8 => ?_
          have ff : Fr [dn, dl] H6 H8 := (Fr.same s7).trans (.bt b8 (by simp))
          refine ⟨footStep g ak, _, _, rfl, f6.trans ff, t6.trans ((Stay.same s7).trans (.butD b8 en7)), ?_, ?_, hnext⟩
          · unfold footStep; rw [if_pos htr]; exact e8
          · unfold footStep; rw [if_pos htr]; exact b8.ne en7 el7 (fun z => nomatch z)
        | false =>
          walk_at "rd"
          refine i_dpt el7 (s7 _ _ hba) (szlt (by omega)) fun H8 b8 e8 => ?_
          have ff : Fr [dn, dl] H6 H8 := (Fr.same s7).trans (.bt b8 (by simp))
          refine ⟨footStep g ak, _, _, rfl, f6.trans ff, t6.trans ((Stay.same s7).trans (.butT b8 el7)), ?_, ?_, hnext⟩
          · unfold footStep; rw [if_neg (by rw [htr]; decide)]; exact b8.ne el7 en7 (fun z => nomatch z)
          · unfold footStep; rw [if_neg (by rw [htr]; decide)]; exact e8
      · rintro σ H6 ⟨g, y4, y5, rfl, f6, t6, en6, el6, hg⟩
        rw [List.take_of_length_le (by omega)] at hg
        refine ⟨g, _, _, _, _, _, rfl, f4.trans (f5.trans f6), t4.trans (t5.trans t6), en6, el6, ?_⟩
        rw [take_snoc hpi, List.foldl_append, ← hf, hg]
        rfl
    · rintro σ H4 ⟨f, y1, y2, y3, y4, y5, rfl, f4, t4, en4, el4, hf⟩
      rw [List.take_of_length_le (by omega)] at hf
      have hf2 : f = footOf (paperD prs z) z := hf
      subst hf2
      have s04 : Same H H4 := Fr.same_of s13 (by
        intro c hc
        rcases List.mem_cons.mp hc with rfl | hc
        · exact n1
        rcases List.mem_cons.mp hc with rfl | hc
        · exact n2'
        cases hc) f4
      walk_at "rd"
      refine i_listDk en4 fun l5 H5 n5 s5 e5 => ?_
      rw [tkv_keys] at e5
      walk_at "rd"
      refine i_sortT (.inl (.inl e5)) fun l6 H6 n6 s6 e6 => ?_
      walk_at "rd"
      refine i_tupof_l (.inl (.inl e6)) fun t7 H7 n7 s7 e7 => ?_
      walk_at "rd"
      have s47 := s5.trans (s6.trans s7)
      refine i_listDt (K := K) (s47 _ _ el4) fun l8 H8 ys n8 s8 e8 q8 => ?_
      walk_at "rd"
      refine i_sortKz (.inl (.inl e8)) q8 fun l9 H9 zs qs n9 s9 e9 pm pw q9 => ?_
      walk_at "rd"
      refine i_tupof_l (.inl (.inl e9)) fun t10 H10 n10 s10 e10 => ?_
      walk_at "rd"
      refine i_new_t (by show 2 ≤ sizeLine; decide) fun t11 H11 n11 s11 e11 => ?_
      walk_at "rd"
      have s710 := s8.trans (s9.trans s10)
      refine q H11 _ qs (s04.trans (s47.trans (s710.trans s11))) pm pw (dt_tupX e11 (dts_cons ((dt_tupX (s710 _ _ e7) dts_strs).mono (.same s11)) (dts_cons ((dt_tupX e10 (q9.mono (.same s10))).mono (.same s11)) dts_nil)))
end
end Aw

/-! full runs don't depend on where a walk begins -/
namespace Aw
open PySem PySem.Spec PyProof.Rows L2
abbrev Orc := Str → Option (Option PyData)
noncomputable def runO (prs : Prs) (o : Orc) : Nat → Mac → Run
  | 0, m => (m.asks, .fault "told")
  | n + 1, m => match m.st with
    | .asks k z => if k = "thing" then (match o z with
        | none => (m.asks, .stuck z)
        | some v => runO prs o n (m.answer v))
      else runO prs o n (m.answer (some (lookedUp prs k z)))
    | _ => (m.asks, m.fin)
noncomputable def byO (prs : Prs) (o : Orc) (name : Str) (rule : PyData) (as : List Asked) : Run :=
  if isRule rule = true then (as ++ (runO prs o 302 (Mac.begin rule name)).1, (runO prs o 302 (Mac.begin rule name)).2) else (as, .fault "rule")
noncomputable def goneO (prs : Prs) (o : Orc) (name : Str) (s : Src) : Run :=
  if s.k = "rule" then byO prs o name s.x [] else match o (srcTxt s) with
    | none => ([], .stuck (srcTxt s))
    | some none => ([("rule", srcTxt s, none)], .fault "lack")
    | some (some d) => byO prs o name d [("rule", srcTxt s, some d)]
noncomputable def gotO (prs : Prs) (o : Orc) (z : Str) : Got := match lookP prs z with
  | none => .lack
  | some s => if s.k = "leaf" then .value s.x else gotBy (goneO prs o z s).2
/-- what is answered within n turns -/
noncomputable def orc (prs : Prs) : Nat → Orc
  | 0 => fun _ => none
  | n + 1 => fun z => (gotO prs (orc prs n) z).asked
def OLe (a b : Orc) : Prop := ∀ z v, a z = some v → b z = some v
def notStuck : End → Prop
  | .stuck _ => False
  | _ => True
theorem fin_ns (m : Mac) : notStuck m.fin := by
  unfold Mac.fin
  cases m.st <;> trivial
theorem runO_mono {prs : Prs} {a b : Orc} (h : OLe a b) : ∀ (n : Nat) (m : Mac), notStuck (runO prs a n m).2 → runO prs b n m = runO prs a n m
  | 0, m, _ => rfl
  | n + 1, m, hs => by
    unfold runO at hs ⊢
    cases e : m.st with
    | asks k z =>
      rw [e] at hs
      dsimp only at hs ⊢
      by_cases hk : k = "thing"
      · rw [if_pos hk] at hs ⊢
        rw [if_pos hk]
        cases ea : a z with
        | none => rw [ea] at hs; exact hs.elim
        | some v =>
          rw [ea] at hs
          rw [h z v ea]
          exact runO_mono h n _ hs
      · rw [if_neg hk] at hs ⊢
        rw [if_neg hk]
        exact runO_mono h n _ hs
    | go => rfl
    | said d => rfl
    | fault w => rfl
theorem byO_mono {prs : Prs} {a b : Orc} (h : OLe a b) {name : Str} {rule : PyData} {as : List Asked} (hs : notStuck (byO prs a name rule as).2) : byO prs b name rule as = byO prs a name rule as := by
  unfold byO at hs ⊢
  by_cases hr : isRule rule = true
  · rw [if_pos hr] at hs ⊢
    rw [if_pos hr, runO_mono h 302 _ hs]
  · rw [if_neg hr, if_neg hr]
theorem goneO_mono {prs : Prs} {a b : Orc} (h : OLe a b) {name : Str} {s : Src} (hs : notStuck (goneO prs a name s).2) : goneO prs b name s = goneO prs a name s := by
  unfold goneO at hs ⊢
  by_cases hk : s.k = "rule"
  · rw [if_pos hk] at hs ⊢
    rw [if_pos hk]
    exact byO_mono h hs
  · rw [if_neg hk] at hs ⊢
    rw [if_neg hk]
    cases ea : a (srcTxt s) with
    | none => rw [ea] at hs; exact hs.elim
    | some v =>
      rw [ea] at hs
      rw [h _ v ea]
      cases v with
      | none => rfl
      | some d => exact byO_mono h hs
theorem asked_ns {e : End} {v : Option PyData} (h : (gotBy e).asked = some v) : notStuck e := by
  cases e with
  | stuck z => cases h
  | _ => trivial
theorem gotO_mono {prs : Prs} {a b : Orc} (h : OLe a b) {z : Str} {v : Option PyData} (hs : (gotO prs a z).asked = some v) : gotO prs b z = gotO prs a z := by
  unfold gotO at hs ⊢
  cases e : lookP prs z with
  | none => rfl
  | some s =>
    rw [e] at hs
    dsimp only at hs ⊢
    by_cases hl : s.k = "leaf"
    · rw [if_pos hl, if_pos hl]
    · rw [if_neg hl] at hs ⊢
      rw [if_neg hl, goneO_mono h (asked_ns hs)]
theorem orc_step (prs : Prs) : ∀ n, OLe (orc prs n) (orc prs (n + 1))
  | 0 => fun z v h => by cases h
  | n + 1 => fun z v h => by
    have h : (gotO prs (orc prs n) z).asked = some v := h
    show (gotO prs (orc prs (n + 1)) z).asked = some v
    rw [gotO_mono (orc_step prs n) h]
    exact h
theorem orc_le (prs : Prs) {n m : Nat} (h : n ≤ m) : OLe (orc prs n) (orc prs m) := by
  induction h with
  | refl => exact fun _ _ h => h
  | step _ ih => exact fun z v h => orc_step prs _ z v (ih z v h)
open Classical in
noncomputable def orcT (prs : Prs) : Orc := fun z => if h : ∃ n v, orc prs n z = some v then some h.choose_spec.choose else none
theorem orcT_of {prs : Prs} {n : Nat} {z : Str} {v : Option PyData} (h : orc prs n z = some v) : orcT prs z = some v := by
  have e : ∃ n v, orc prs n z = some v := ⟨n, v, h⟩
  unfold orcT
  rw [dif_pos e]
  have h2 := e.choose_spec.choose_spec
  rcases Nat.le_total n e.choose with k | k
  · exact h2.symm.trans (orc_le prs k z v h)
  · exact (orc_le prs k z _ h2).symm.trans h
theorem orcT_ex {prs : Prs} {z : Str} {v : Option PyData} (h : orcT prs z = some v) : ∃ n, orc prs n z = some v := by
  unfold orcT at h
  by_cases e : ∃ n v, orc prs n z = some v
  · rw [dif_pos e] at h
    exact ⟨e.choose, by rw [← h]; exact e.choose_spec.choose_spec⟩
  · rw [dif_neg e] at h
    cases h
theorem orc_leT (prs : Prs) (n : Nat) : OLe (orc prs n) (orcT prs) := fun _ _ h => orcT_of h
/-- a run that is not stuck leans on finitely many turns -/
theorem runO_fin {prs : Prs} : ∀ (n : Nat) (m : Mac), notStuck (runO prs (orcT prs) n m).2 → ∃ k, runO prs (orc prs k) n m = runO prs (orcT prs) n m
  | 0, m, _ => ⟨0, rfl⟩
  | n + 1, m, hs => by
    have key : ∃ k, (∀ k', k ≤ k' → runO prs (orc prs k') (n + 1) m = runO prs (orcT prs) (n + 1) m) := by
      unfold runO at hs ⊢
      cases e : m.st with
      | asks x z =>
        rw [e] at hs
        dsimp only at hs ⊢
        by_cases hk : x = "thing"
        · rw [if_pos hk] at hs
          cases ea : orcT prs z with
          | none => rw [ea] at hs; exact hs.elim
          | some v =>
            rw [ea] at hs
            obtain ⟨k1, h1⟩ := orcT_ex ea
            obtain ⟨k2, h2⟩ := runO_fin n _ hs
            refine ⟨max k1 k2, fun k' hk' => ?_⟩
            rw [if_pos hk, if_pos hk, orc_le prs (Nat.le_trans (Nat.le_max_left _ _) hk') z v h1]
            dsimp only
            rw [← h2]
            exact runO_mono (orc_le prs (Nat.le_trans (Nat.le_max_right _ _) hk')) n _ (by rw [h2]; exact hs)
        · rw [if_neg hk] at hs
          obtain ⟨k2, h2⟩ := runO_fin n _ hs
          refine ⟨k2, fun k' hk' => ?_⟩
          rw [if_neg hk, if_neg hk, ← h2]
          exact runO_mono (orc_le prs hk') n _ (by rw [h2]; exact hs)
      | go => exact ⟨0, fun _ _ => rfl⟩
      | said d => exact ⟨0, fun _ _ => rfl⟩
      | fault w => exact ⟨0, fun _ _ => rfl⟩
    obtain ⟨k, hk⟩ := key
    exact ⟨k, hk k (Nat.le_refl _)⟩
theorem byO_fin {prs : Prs} {name : Str} {rule : PyData} {as : List Asked} (hs : notStuck (byO prs (orcT prs) name rule as).2) : ∃ k, byO prs (orc prs k) name rule as = byO prs (orcT prs) name rule as := by
  unfold byO at hs ⊢
  by_cases hr : isRule rule = true
  · rw [if_pos hr] at hs
    obtain ⟨k, h⟩ := runO_fin 302 _ hs
    exact ⟨k, by rw [if_pos hr, if_pos hr, h]⟩
  · exact ⟨0, by rw [if_neg hr, if_neg hr]⟩
theorem goneO_fin {prs : Prs} {name : Str} {s : Src} (hs : notStuck (goneO prs (orcT prs) name s).2) : ∃ k, goneO prs (orc prs k) name s = goneO prs (orcT prs) name s := by
  by_cases hk : s.k = "rule"
  · have e : ∀ o, goneO prs o name s = byO prs o name s.x [] := fun o => by unfold goneO; rw [if_pos hk]
    rw [e] at hs
    obtain ⟨k, h⟩ := byO_fin hs
    exact ⟨k, by rw [e, e, h]⟩
  · cases ea : orcT prs (srcTxt s) with
    | none =>
      unfold goneO at hs
      rw [if_neg hk, ea] at hs
      exact hs.elim
    | some v =>
      obtain ⟨k1, h1⟩ := orcT_ex ea
      cases v with
      | none => exact ⟨k1, by unfold goneO; rw [if_neg hk, if_neg hk, ea, h1]⟩
      | some d =>
        have hb : notStuck (byO prs (orcT prs) name d [("rule", srcTxt s, some d)]).2 := by
          unfold goneO at hs
          rw [if_neg hk, ea] at hs
          exact hs
        obtain ⟨k2, h2⟩ := byO_fin hb
        refine ⟨max k1 k2, ?_⟩
        unfold goneO
        rw [if_neg hk, if_neg hk, ea, orc_le prs (Nat.le_max_left k1 k2) _ _ h1]
        dsimp only
        rw [← h2]
        exact byO_mono (orc_le prs (Nat.le_max_right k1 k2)) (by rw [h2]; exact hb)
/-- the oracle is its own answer -/
theorem orcT_fix (prs : Prs) (z : Str) : (gotO prs (orcT prs) z).asked = orcT prs z := by
  cases e : orcT prs z with
  | some v =>
    obtain ⟨n, h⟩ := orcT_ex e
    cases n with
    | zero => cases h
    | succ n =>
      have h : (gotO prs (orc prs n) z).asked = some v := h
      rw [gotO_mono (orc_leT prs n) h]
      exact h
  | none =>
    cases e2 : (gotO prs (orcT prs) z).asked with
    | none => rfl
    | some v =>
      have key : ∃ k, gotO prs (orc prs k) z = gotO prs (orcT prs) z := by
        unfold gotO at e2 ⊢
        cases el : lookP prs z with
        | none => exact ⟨0, rfl⟩
        | some s =>
          rw [el] at e2
          dsimp only at e2 ⊢
          by_cases hl : s.k = "leaf"
          · exact ⟨0, by rw [if_pos hl, if_pos hl]⟩
          · rw [if_neg hl] at e2
            obtain ⟨k, h⟩ := goneO_fin (asked_ns e2)
            exact ⟨k, by rw [if_neg hl, if_neg hl, h]⟩
      obtain ⟨k, h⟩ := key
      have : orc prs (k + 1) z = some v := by
        show (gotO prs (orc prs k) z).asked = some v
        rw [h]
        exact e2
      rw [orcT_of this] at e
      cases e
/-! ### the walk finds just this -/
def RsF (prs : Prs) (rs : Runs) : Prop := ∀ p ∈ rs, ∃ s, lookP prs p.1 = some s ∧ s.k ≠ "leaf" ∧ p.2 = goneO prs (orcT prs) p.1 s
def RankD (prs : Prs) (n : Nat) (z : Str) : Prop := ∃ v, orc prs n z = some v
theorem RankD.mono {prs : Prs} {n m : Nat} {z : Str} (h : RankD prs n z) (k : n ≤ m) : RankD prs m z := let ⟨v, e⟩ := h; ⟨v, orc_le prs k z v e⟩
def InvO (prs : Prs) (op : List Str) (z : Str) : Prop := ∀ s ∈ op, ∀ n, RankD prs (n + 1) s → RankD prs n z
theorem invO_open {prs : Prs} {op : List Str} {z : Str} (h : InvO prs op z) (hz : z ∈ op) : orcT prs z = none := by
  have no : ∀ n, ¬ RankD prs n z := by
    intro n
    induction n with
    | zero => rintro ⟨v, e⟩; cases e
    | succ n ih => exact fun k => ih (h z hz n k)
  cases e : orcT prs z with
  | none => rfl
  | some v =>
    obtain ⟨n, k⟩ := orcT_ex e
    exact absurd ⟨v, k⟩ (no n)
theorem invO_more {prs : Prs} {op : List Str} {z y : Str} (h : InvO prs op z) (k : ∀ n, RankD prs (n + 1) z → RankD prs n y) : InvO prs (op ++ [z]) y := by
  intro s hs n hn
  rcases List.mem_append.mp hs with hs | hs
  · have h1 := h s hs n hn
    cases n with
    | zero => obtain ⟨v, e⟩ := h1; cases e
    | succ n => exact (k n h1).mono (Nat.le_succ _)
  · rw [List.mem_singleton.mp hs] at hn
    exact k n hn
theorem loopO {prs : Prs} {ask : AskF} {Pz : Nat → Prop} (hA : ∀ rs y, RsF prs rs → (∀ j, Pz j → RankD prs j y) → (ask rs y).1.asked = orcT prs y ∧ RsF prs (ask rs y).2) : ∀ (k : Nat) (m : Mac) (rs : Runs), RsF prs rs →
    (∀ j, Pz j → notStuck (runO prs (orc prs j) k m).2) → (runLoop prs ask k m rs).1 = runO prs (orcT prs) k m ∧ RsF prs (runLoop prs ask k m rs).2
  | 0, m, rs, hr, _ => ⟨rfl, hr⟩
  | k + 1, m, rs, hr, hs => by
    unfold runLoop runO
    cases e : m.st with
    | asks x y =>
      dsimp only
      by_cases hx : x = "thing"
      · rw [if_pos hx, if_pos hx]
        have hy : ∀ j, Pz j → RankD prs j y := fun j hj => by
          have h := hs j hj
          unfold runO at h
          rw [e] at h
          dsimp only at h
          rw [if_pos hx] at h
          cases ea : orc prs j y with
          | none => rw [ea] at h; exact h.elim
          | some v => exact ⟨v, ea⟩
        obtain ⟨h1, h2⟩ := hA rs y hr hy
        rw [h1]
        cases eo : orcT prs y with
        | none => exact ⟨rfl, h2⟩
        | some v =>
          dsimp only
          refine loopO hA k _ _ h2 fun j hj => ?_
          have h := hs j hj
          unfold runO at h
          rw [e] at h
          dsimp only at h
          rw [if_pos hx] at h
          obtain ⟨v', ev⟩ := hy j hj
          have := orcT_of ev
          rw [eo] at this
          cases this
          rw [ev] at h
          exact h
      · rw [if_neg hx, if_neg hx]
        refine loopO hA k _ _ hr fun j hj => ?_
        have h := hs j hj
        unfold runO at h
        rw [e] at h
        dsimp only at h
        rw [if_neg hx] at h
        exact h
    | go => exact ⟨rfl, hr⟩
    | said d => exact ⟨rfl, hr⟩
    | fault w => exact ⟨rfl, hr⟩
theorem runByO {prs : Prs} {ask : AskF} {Pz : Nat → Prop} (hA : ∀ rs y, RsF prs rs → (∀ j, Pz j → RankD prs j y) → (ask rs y).1.asked = orcT prs y ∧ RsF prs (ask rs y).2) {name : Str} {rule : PyData} {as : List Asked} {rs : Runs} (hr : RsF prs rs)
    (hs : ∀ j, Pz j → notStuck (byO prs (orc prs j) name rule as).2) : (runBy prs ask name rule as rs).1 = byO prs (orcT prs) name rule as ∧ RsF prs (runBy prs ask name rule as rs).2 := by
  unfold runBy byO
  by_cases h : isRule rule = true
  · rw [if_pos h, if_pos h]
    obtain ⟨h1, h2⟩ := loopO hA 302 (Mac.begin rule name) rs hr fun j hj => by
      have := hs j hj
      unfold byO at this
      rw [if_pos h] at this
      exact this
    dsimp only
    rw [h1]
    exact ⟨rfl, h2⟩
  · rw [if_neg h, if_neg h]
    exact ⟨rfl, hr⟩
theorem goneByO {prs : Prs} {ask : AskF} {Pz : Nat → Prop} (hA : ∀ rs y, RsF prs rs → (∀ j, Pz j → RankD prs j y) → (ask rs y).1.asked = orcT prs y ∧ RsF prs (ask rs y).2) {name : Str} {s : Src} {rs : Runs} (hr : RsF prs rs)
    (hs : ∀ j, Pz j → notStuck (goneO prs (orc prs j) name s).2) : (goneBy prs ask name s rs).1 = goneO prs (orcT prs) name s ∧ RsF prs (goneBy prs ask name s rs).2 := by
  unfold goneBy goneO
  by_cases hk : s.k = "rule"
  · rw [if_pos hk, if_pos hk]
    exact runByO hA hr fun j hj => by
      have := hs j hj
      unfold goneO at this
      rw [if_pos hk] at this
      exact this
  · rw [if_neg hk, if_neg hk]
    have hy : ∀ j, Pz j → RankD prs j (srcTxt s) := fun j hj => by
      have h := hs j hj
      unfold goneO at h
      rw [if_neg hk] at h
      cases ea : orc prs j (srcTxt s) with
      | none => rw [ea] at h; exact h.elim
      | some v => exact ⟨v, ea⟩
    obtain ⟨h1, h2⟩ := hA rs (srcTxt s) hr hy
    rw [h1]
    cases eo : orcT prs (srcTxt s) with
    | none => exact ⟨rfl, h2⟩
    | some v =>
      cases v with
      | none => exact ⟨rfl, h2⟩
      | some d =>
        dsimp only
        refine runByO hA h2 fun j hj => ?_
        have h := hs j hj
        unfold goneO at h
        rw [if_neg hk] at h
        obtain ⟨v', ev⟩ := hy j hj
        have := orcT_of ev
        rw [eo] at this
        cases this
        rw [ev] at h
        exact h
theorem rank_ns {prs : Prs} {z : Str} {s : Src} (hl : lookP prs z = some s) (hk : s.k ≠ "leaf") (j : Nat) (h : RankD prs (j + 1) z) : notStuck (goneO prs (orc prs j) z s).2 := by
  obtain ⟨v, e⟩ := h
  have e : (gotO prs (orc prs j) z).asked = some v := e
  unfold gotO at e
  rw [hl] at e
  dsimp only at e
  rw [if_neg hk] at e
  exact asked_ns e
theorem freeN_pos {prs : Prs} {op : List Str} {z : Str} (h : z ∈ names prs) (ho : z ∉ op) : 1 ≤ freeN prs op := by
  have := freeN_open h ho
  omega
theorem dfs (prs : Prs) : ∀ (n : Nat) (op : List Str) (rs : Runs) (z : Str), freeN prs op ≤ n → RsF prs rs → InvO prs op z →
    (pAns prs n op rs z).1.asked = orcT prs z ∧ RsF prs (pAns prs n op rs z).2 ∧ (z ∉ op → (pAns prs n op rs z).1 = gotO prs (orcT prs) z) := by
  have step : ∀ (inner : List Str → AskF) (op : List Str) (rs : Runs) (z : Str), RsF prs rs → InvO prs op z →
      (z ∈ names prs → z ∉ op → ∀ rs y, RsF prs rs → (∀ j, RankD prs (j + 1) z → RankD prs j y) → (inner (op ++ [z]) rs y).1.asked = orcT prs y ∧ RsF prs (inner (op ++ [z]) rs y).2) →
      (ansStep prs inner op rs z).1.asked = orcT prs z ∧ RsF prs (ansStep prs inner op rs z).2 ∧ (z ∉ op → (ansStep prs inner op rs z).1 = gotO prs (orcT prs) z) := by
    intro inner op rs z hr hi hA
    have fx := orcT_fix prs z
    unfold ansStep
    unfold gotO at fx ⊢
    cases hl : lookP prs z with
    | none =>
      rw [hl] at fx
      exact ⟨fx, hr, fun _ => rfl⟩
    | some s =>
      rw [hl] at fx
      dsimp only at fx ⊢
      by_cases hk : s.k = "leaf"
      · rw [if_pos hk] at fx ⊢
        rw [if_pos hk]
        exact ⟨fx, hr, fun _ => rfl⟩
      · rw [if_neg hk] at fx ⊢
        rw [if_neg hk]
        by_cases ho : z ∈ op
        · rw [if_pos ho]
          exact ⟨(invO_open hi ho).symm, hr, fun h => absurd ho h⟩
        · rw [if_neg ho]
          cases hlk : rs.lookup z with
          | some r =>
            obtain ⟨s', h1, h2, h3⟩ := hr (z, r) (lookup_some_mem hlk)
            rw [hl] at h1
            cases h1
            dsimp only at h3 ⊢
            rw [h3]
            exact ⟨fx, hr, fun _ => rfl⟩
          | none =>
            dsimp only
            obtain ⟨h1, h2⟩ := goneByO (Pz := fun j => RankD prs (j + 1) z) (hA (mem_names (lookP_mem hl)) ho) (name := z) (s := s) hr (fun j hj => rank_ns hl hk j hj)
            rw [h1]
            refine ⟨fx, fun p hp => ?_, fun _ => rfl⟩
            rcases List.mem_append.mp hp with hp | hp
            · exact h2 p hp
            · rw [List.mem_singleton.mp hp]
              exact ⟨s, hl, hk, rfl⟩
  intro n
  induction n with
  | zero =>
    intro op rs z hf hr hi
    exact step _ op rs z hr hi fun hz ho => absurd (freeN_pos hz ho) (by omega)
  | succ n ih =>
    intro op rs z hf hr hi
    refine step (pAns prs n) op rs z hr hi fun hz ho rs y hr2 hy => ?_
    have h1 := freeN_open hz ho
    obtain ⟨a, b, _⟩ := ih (op ++ [z]) rs y (by omega) hr2 (invO_more hi hy)
    exact ⟨a, b⟩
end Aw

/-! what is told of a name, from anywhere -/
namespace Aw
open PySem PySem.Spec PyProof.Rows L2
section
variable {prs : Prs}
theorem free_le : freeN prs [] ≤ prs.length := by
  unfold freeN names
  have h1 := List.length_filter_le (fun z => !decide (z ∈ ([] : List Str))) (prs.map (·.1))
  rw [List.length_map] at h1
  exact h1
theorem top_det (h : prs.length ≤ 50) (z : Str) : (pTop prs z).1 = gotO prs (orcT prs) z ∧ RsF prs (pTop prs z).2 := by
  obtain ⟨_, b, c⟩ := dfs prs 50 [] [] z (Nat.le_trans free_le h) (fun p hp => (List.not_mem_nil hp).elim) (fun s hs => (List.not_mem_nil hs).elim)
  exact ⟨c List.not_mem_nil, b⟩
/-- asked once more of the same walk -/
theorem again_det (h : prs.length ≤ 50) {rs : Runs} (hr : RsF prs rs) (z : Str) : (pAns prs 50 [] rs z).1 = gotO prs (orcT prs) z :=
  (dfs prs 50 [] rs z (Nat.le_trans free_le h) hr (fun s hs => (List.not_mem_nil hs).elim)).2.2 List.not_mem_nil
theorem full_det (hp : PrsOk prs) (h : prs.length ≤ 50) {z : Str} {s : Src} (hl : lookP prs z = some s) (hk : s.k ≠ "leaf") : fullRun prs z = goneO prs (orcT prs) z s := by
  have h1 := top_look hp (z := z) ⟨s, hl, hk⟩
  obtain ⟨s', e, _, e2⟩ := (top_det h z).2 (z, fullRun prs z) (lookup_some_mem h1)
  rw [hl] at e
  cases e
  exact e2
/-- how a name stands: its value, a lack, or none of these -/
def standG : Got → PyData
  | .lack => .tuple [.str "lack"]
  | .value d => .tuple [.str "value", d]
  | .going | .bad _ => .tuple [.str "none"]
noncomputable def standD (prs : Prs) (z : Str) : PyData := standG (gotO prs (orcT prs) z)
theorem stand_asked {a b : Got} (h : standG a = standG b) : a.asked = b.asked := by
  cases a <;> cases b <;> simp [standG, Got.asked] at h ⊢
  all_goals first
    | exact h
    | rfl
    | (exact absurd h (by decide))
    | (exact absurd h.1 (by decide))
theorem asked_stand {a b : Got} (h : a.asked = b.asked) : standG a = standG b := by
  cases a <;> cases b <;> simp [standG, Got.asked] at h ⊢
  exact h
end
end Aw

/-! where two full runs part -/
namespace Aw
open PySem PySem.Spec PyProof.Rows L2
def OrcOk (o : Orc) : Prop := ∀ y v, o y = some v → ∀ d, v = some d → treeOk d = true
theorem orcT_ok {prs : Prs} (hp : PrsOk prs) (h : prs.length ≤ 50) : ∀ y v, nameOk y = true → orcT prs y = some v → ∀ d, v = some d → treeOk d = true := by
  intro y v hy hv d hd
  have h1 := (top_ok hp hy).1
  rw [(top_det h y).1] at h1
  have h2 := orcT_fix prs y
  rw [hv] at h2
  cases e : gotO prs (orcT prs) y with
  | lack => rw [e] at h2; cases h2; cases hd
  | value d2 =>
    rw [e] at h1 h2
    have h2 : (some (some d2) : Option (Option PyData)) = some v := h2
    cases h2
    cases hd
    exact h1
  | going => rw [e] at h2; cases h2
  | bad e2 => rw [e] at h2; cases h2
/-- one side of a parting: stuck there, or told v -/
def Side (a : Option (Option PyData)) (L : List Asked) (k y : Str) (r : Run) : Prop := match a with
  | none => r = (L, .stuck y)
  | some v => ∃ t, r.1 = L ++ (k, y, v) :: t
/-- r1, r2 part behind the asks L at the ask (k, y) -/
def Parts (p1 p2 : Prs) (o1 o2 : Orc) (L : List Asked) (k y : Str) (r1 r2 : Run) : Prop :=
  ((k = "thing" ∨ k = "rule") ∧ o1 y ≠ o2 y ∧ Side (o1 y) L k y r1 ∧ Side (o2 y) L k y r2) ∨
  ((k = "has" ∨ k = "names") ∧ lookedUp p1 k y ≠ lookedUp p2 k y ∧ Side (some (some (lookedUp p1 k y))) L k y r1 ∧ Side (some (some (lookedUp p2 k y))) L k y r2)
theorem runO_pre {prs : Prs} {o : Orc} (hp : PrsOk prs) (ho : ∀ y v, nameOk y = true → o y = some v → ∀ d, v = some d → treeOk d = true) : ∀ (n : Nat) {m : Mac}, MacOk m → ∃ t, (runO prs o n m).1 = m.asks ++ t
  | 0, m, _ => ⟨[], by unfold runO; rw [List.append_nil]⟩
  | n + 1, m, hm => by
    unfold runO
    cases e : m.st with
    | asks k z =>
      have hst := hm.st
      rw [e] at hst
      obtain ⟨_, hak, _⟩ := hst
      dsimp only
      by_cases hk : k = "thing"
      · rw [if_pos hk]
        have hz : nameOk z = true := by
          rcases hak with ⟨_, h⟩ | ⟨h, _⟩ | ⟨h, _⟩
          · exact h
          · rw [hk] at h; exact absurd h (by decide)
          · rw [hk] at h; exact absurd h (by decide)
        cases eo : o z with
        | none => exact ⟨[], (List.append_nil _).symm⟩
        | some v =>
          obtain ⟨a1, _, a3, _⟩ := answer_ok hm e (o := v) (.inl ⟨hk, ho z v hz eo⟩)
          obtain ⟨t, ht⟩ := runO_pre hp ho n a1
          refine ⟨(k, z, v) :: t, ?_⟩
          dsimp only
          rw [ht, a3, List.append_assoc]
          rfl
      · rw [if_neg hk]
        have hk2 : k = "has" ∨ k = "names" := by
          rcases hak with ⟨h, _⟩ | ⟨h, _⟩ | ⟨h, _⟩
          · exact absurd h hk
          · exact .inl h
          · exact .inr h
        obtain ⟨a1, _, a3, _⟩ := answer_ok hm e (o := some (lookedUp prs k z)) (looked_ok hp hk2)
        obtain ⟨t, ht⟩ := runO_pre hp ho n a1
        refine ⟨(k, z, some (lookedUp prs k z)) :: t, ?_⟩
        rw [ht, a3, List.append_assoc]
        rfl
    | go => exact ⟨[], (List.append_nil _).symm⟩
    | said d => exact ⟨[], (List.append_nil _).symm⟩
    | fault w => exact ⟨[], (List.append_nil _).symm⟩
theorem runO_par {p1 p2 : Prs} {o1 o2 : Orc} (h1 : PrsOk p1) (h2 : PrsOk p2) (k1 : ∀ y v, nameOk y = true → o1 y = some v → ∀ d, v = some d → treeOk d = true) (k2 : ∀ y v, nameOk y = true → o2 y = some v → ∀ d, v = some d → treeOk d = true) :
    ∀ (n : Nat) {m : Mac}, MacOk m → runO p1 o1 n m = runO p2 o2 n m ∨ ∃ L k y, (∃ t, L = m.asks ++ t) ∧ Parts p1 p2 o1 o2 L k y (runO p1 o1 n m) (runO p2 o2 n m)
  | 0, m, _ => .inl rfl
  | n + 1, m, hm => by
    unfold runO
    cases e : m.st with
    | asks k z =>
      have hst := hm.st
      rw [e] at hst
      obtain ⟨_, hak, _⟩ := hst
      dsimp only
      by_cases hk : k = "thing"
      · rw [if_pos hk, if_pos hk]
        have hz : nameOk z = true := by
          rcases hak with ⟨_, h⟩ | ⟨h, _⟩ | ⟨h, _⟩
          · exact h
          · rw [hk] at h; exact absurd h (by decide)
          · rw [hk] at h; exact absurd h (by decide)
        have side : ∀ (p : Prs) (o : Orc), PrsOk p → (∀ y v, nameOk y = true → o y = some v → ∀ d, v = some d → treeOk d = true) → Side (o z) m.asks k z (match o z with
            | none => (m.asks, End.stuck z)
            | some v => runO p o n (m.answer v)) := fun p o hp ho => by
          cases eo : o z with
          | none => exact rfl
          | some v =>
            obtain ⟨a1, _, a3, _⟩ := answer_ok hm e (o := v) (.inl ⟨hk, ho z v hz eo⟩)
            obtain ⟨t, ht⟩ := runO_pre hp ho n a1
            refine ⟨t, ?_⟩
            dsimp only
            rw [ht, a3, List.append_assoc]
            rfl
        by_cases eq : o1 z = o2 z
        · cases e2 : o2 z with
          | none =>
            rw [e2] at eq
            rw [eq]
            exact .inl rfl
          | some v =>
            rw [e2] at eq
            rw [eq]
            dsimp only
            obtain ⟨a1, _, a3, _⟩ := answer_ok hm e (o := v) (.inl ⟨hk, k2 z v hz e2⟩)
            rcases runO_par h1 h2 k1 k2 n a1 with h | ⟨L, k', y, ⟨t, ht⟩, hP⟩
            · exact .inl h
            · exact .inr ⟨L, k', y, ⟨(k, z, v) :: t, by rw [ht, a3, List.append_assoc]; rfl⟩, hP⟩
        · exact .inr ⟨m.asks, k, z, ⟨[], (List.append_nil _).symm⟩, .inl ⟨.inl hk, eq, side p1 o1 h1 k1, side p2 o2 h2 k2⟩⟩
      · rw [if_neg hk, if_neg hk]
        have hk2 : k = "has" ∨ k = "names" := by
          rcases hak with ⟨h, _⟩ | ⟨h, _⟩ | ⟨h, _⟩
          · exact absurd h hk
          · exact .inl h
          · exact .inr h
        obtain ⟨a1, _, a3, _⟩ := answer_ok hm e (o := some (lookedUp p1 k z)) (looked_ok h1 hk2)
        obtain ⟨b1, _, b3, _⟩ := answer_ok hm e (o := some (lookedUp p2 k z)) (looked_ok h2 hk2)
        by_cases eq : lookedUp p1 k z = lookedUp p2 k z
        · rw [eq]
          rcases runO_par h1 h2 k1 k2 n b1 with h | ⟨L, k', y, ⟨t, ht⟩, hP⟩
          · exact .inl h
          · exact .inr ⟨L, k', y, ⟨(k, z, some (lookedUp p2 k z)) :: t, by rw [ht, b3, List.append_assoc]; rfl⟩, hP⟩
        · refine .inr ⟨m.asks, k, z, ⟨[], (List.append_nil _).symm⟩, .inr ⟨hk2, eq, ?_, ?_⟩⟩
          · obtain ⟨t, ht⟩ := runO_pre h1 k1 n a1
            exact ⟨t, by rw [ht, a3, List.append_assoc]; rfl⟩
          · obtain ⟨t, ht⟩ := runO_pre h2 k2 n b1
            exact ⟨t, by rw [ht, b3, List.append_assoc]; rfl⟩
    | go => exact .inl rfl
    | said d => exact .inl rfl
    | fault w => exact .inl rfl
/-! ### from the sources -/
structure Both (p1 p2 : Prs) (o1 o2 : Orc) : Prop where
  h1 : PrsOk p1
  h2 : PrsOk p2
  k1 : ∀ y v, nameOk y = true → o1 y = some v → ∀ d, v = some d → treeOk d = true
  k2 : ∀ y v, nameOk y = true → o2 y = some v → ∀ d, v = some d → treeOk d = true
section
variable {p1 p2 : Prs} {o1 o2 : Orc}
theorem Side.pre {a : Option (Option PyData)} {L as : List Asked} {k y : Str} {r : Run} (h : Side a L k y r) : Side a (as ++ L) k y (as ++ r.1, r.2) := by
  cases a with
  | none =>
    have h : r = (L, .stuck y) := h
    rw [h]
    exact rfl
  | some v =>
    obtain ⟨t, ht⟩ := h
    exact ⟨t, by rw [ht, List.append_assoc]⟩
theorem Parts.pre {L as : List Asked} {k y : Str} {r1 r2 : Run} (h : Parts p1 p2 o1 o2 L k y r1 r2) : Parts p1 p2 o1 o2 (as ++ L) k y (as ++ r1.1, r1.2) (as ++ r2.1, r2.2) := by
  rcases h with ⟨a, b, c, d⟩ | ⟨a, b, c, d⟩
  · exact .inl ⟨a, b, c.pre, d.pre⟩
  · exact .inr ⟨a, b, c.pre, d.pre⟩
theorem byO_par (B : Both p1 p2 o1 o2) {name : Str} {rule : PyData} {as : List Asked} (hn : nameOk name = true) : byO p1 o1 name rule as = byO p2 o2 name rule as ∨ ∃ L k y, Parts p1 p2 o1 o2 L k y (byO p1 o1 name rule as) (byO p2 o2 name rule as) := by
  unfold byO
  by_cases h : isRule rule = true
  · rw [if_pos h, if_pos h]
    rcases runO_par B.h1 B.h2 B.k1 B.k2 302 (begin_ok h hn) with e | ⟨L, k, y, _, hP⟩
    · rw [e]; exact .inl rfl
    · exact .inr ⟨as ++ L, k, y, hP.pre⟩
  · rw [if_neg h, if_neg h]
    exact .inl rfl
theorem goneO_par (B : Both p1 p2 o1 o2) {name : Str} {s : Src} (hn : nameOk name = true) : goneO p1 o1 name s = goneO p2 o2 name s ∨ ∃ L k y, Parts p1 p2 o1 o2 L k y (goneO p1 o1 name s) (goneO p2 o2 name s) := by
  by_cases hk : s.k = "rule"
  · have e : ∀ p o, goneO p o name s = byO p o name s.x [] := fun p o => by unfold goneO; rw [if_pos hk]
    rw [e, e]
    exact byO_par B hn
  · have side : ∀ (p : Prs) (o : Orc), Side (o (srcTxt s)) [] "rule" (srcTxt s) (goneO p o name s) := fun p o => by
      unfold goneO
      rw [if_neg hk]
      cases eo : o (srcTxt s) with
      | none => exact rfl
      | some v =>
        cases v with
        | none => exact ⟨[], rfl⟩
        | some d =>
          dsimp only
          unfold byO
          by_cases hr : isRule d = true
          · rw [if_pos hr]
            exact ⟨_, rfl⟩
          · rw [if_neg hr]
            exact ⟨[], rfl⟩
    by_cases eq : o1 (srcTxt s) = o2 (srcTxt s)
    · cases e2 : o2 (srcTxt s) with
      | none =>
        left
        unfold goneO
        rw [if_neg hk, if_neg hk, eq, e2]
      | some v =>
        cases v with
        | none =>
          left
          unfold goneO
          rw [if_neg hk, if_neg hk, eq, e2]
        | some d =>
          have e1 : goneO p1 o1 name s = byO p1 o1 name d [("rule", srcTxt s, some d)] := by unfold goneO; rw [if_neg hk, eq, e2]
          have e3 : goneO p2 o2 name s = byO p2 o2 name d [("rule", srcTxt s, some d)] := by unfold goneO; rw [if_neg hk, e2]
          rw [e1, e3]
          exact byO_par B hn
    · exact .inr ⟨[], "rule", srcTxt s, .inl ⟨.inr rfl, eq, side p1 o1, side p2 o2⟩⟩
end
/-! ### what is asked in a run that is not stuck is answered within the turns -/
section
variable {prs : Prs} {o : Orc}
theorem runO_asked (hp : PrsOk prs) (ho : ∀ y v, nameOk y = true → o y = some v → ∀ d, v = some d → treeOk d = true) : ∀ (n : Nat) {m : Mac}, MacOk m → ∀ a ∈ (runO prs o n m).1, a ∈ m.asks ∨ (a.1 ≠ "rule" ∧ (a.1 = "thing" → o a.2.1 = some a.2.2))
  | 0, m, _, a, ha => .inl (by unfold runO at ha; exact ha)
  | n + 1, m, hm, a, ha => by
    unfold runO at ha
    cases e : m.st with
    | asks k z =>
      rw [e] at ha
      have hst := hm.st
      rw [e] at hst
      obtain ⟨_, hak, _⟩ := hst
      dsimp only at ha
      by_cases hk : k = "thing"
      · rw [if_pos hk] at ha
        have hz : nameOk z = true := by
          rcases hak with ⟨_, h⟩ | ⟨h, _⟩ | ⟨h, _⟩
          · exact h
          · rw [hk] at h; exact absurd h (by decide)
          · rw [hk] at h; exact absurd h (by decide)
        cases eo : o z with
        | none => rw [eo] at ha; exact .inl ha
        | some v =>
          rw [eo] at ha
          obtain ⟨a1, _, a3, _⟩ := answer_ok hm e (o := v) (.inl ⟨hk, ho z v hz eo⟩)
          rcases runO_asked hp ho n a1 a ha with h | h
          · rw [a3] at h
            rcases List.mem_append.mp h with h | h
            · exact .inl h
            · rw [List.mem_singleton.mp h]
              exact .inr ⟨fun q => absurd (hk.symm.trans q) (by decide), fun _ => eo⟩
          · exact .inr h
      · rw [if_neg hk] at ha
        have hk2 : k = "has" ∨ k = "names" := by
          rcases hak with ⟨h, _⟩ | ⟨h, _⟩ | ⟨h, _⟩
          · exact absurd h hk
          · exact .inl h
          · exact .inr h
        obtain ⟨a1, _, a3, _⟩ := answer_ok hm e (o := some (lookedUp prs k z)) (looked_ok hp hk2)
        rcases runO_asked hp ho n a1 a ha with h | h
        · rw [a3] at h
          rcases List.mem_append.mp h with h | h
          · exact .inl h
          · rw [List.mem_singleton.mp h]
            exact .inr ⟨fun q => by rcases hk2 with e | e <;> exact absurd (e.symm.trans q) (by decide), fun h => absurd h hk⟩
        · exact .inr h
    | go => rw [e] at ha; exact .inl ha
    | said d => rw [e] at ha; exact .inl ha
    | fault w => rw [e] at ha; exact .inl ha
theorem goneO_asked (hp : PrsOk prs) (ho : ∀ y v, nameOk y = true → o y = some v → ∀ d, v = some d → treeOk d = true) {name : Str} {s : Src} (hn : nameOk name = true) : ∀ a ∈ (goneO prs o name s).1, a.1 = "thing" ∨ a.1 = "rule" → o a.2.1 = some a.2.2 := by
  intro a ha hk2
  have by' : ∀ (rule : PyData) (as : List Asked), (∀ b ∈ as, o b.2.1 = some b.2.2) → a ∈ (byO prs o name rule as).1 → o a.2.1 = some a.2.2 := fun rule as has hb => by
    unfold byO at hb
    by_cases h : isRule rule = true
    · rw [if_pos h] at hb
      rcases List.mem_append.mp hb with hb | hb
      · exact has a hb
      · rcases runO_asked hp ho 302 (begin_ok h hn) a hb with h2 | h2
        · have : (Mac.begin rule name).asks = [] := (goOn_rule 302 (mac0 rule name)).2.2
          rw [this] at h2
          exact (List.not_mem_nil h2).elim
        · rcases hk2 with k | k
          · exact h2.2 k
          · exact absurd k h2.1
    · rw [if_neg h] at hb
      exact has a hb
  unfold goneO at ha
  by_cases hk : s.k = "rule"
  · rw [if_pos hk] at ha
    exact by' _ _ (fun b hb => (List.not_mem_nil hb).elim) ha
  · rw [if_neg hk] at ha
    cases eo : o (srcTxt s) with
    | none => rw [eo] at ha; exact (List.not_mem_nil ha).elim
    | some v =>
      rw [eo] at ha
      cases v with
      | none =>
        rw [List.mem_singleton.mp ha]
        exact eo
      | some d => exact by' _ _ (fun b hb => by rw [List.mem_singleton.mp hb]; exact eo) ha
end
end Aw

/-! reasons, in plain Lean -/
namespace Aw
open PySem PySem.Spec PyProof.Rows L2
open Classical in
noncomputable def firstU : List Asked → List Asked → Nat × (Str × Str)
  | a :: as, b :: bs => if a = b then ((firstU as bs).1 + 1, (firstU as bs).2) else (0, (a.1, a.2.1))
  | a :: _, [] => (0, (a.1, a.2.1))
  | [], b :: _ => (0, (b.1, b.2.1))
  | [], [] => (0, (Str.empty, Str.empty))
theorem firstU_pre (L a b : List Asked) : firstU (L ++ a) (L ++ b) = ((firstU a b).1 + L.length, (firstU a b).2) := by
  induction L with
  | nil => rfl
  | cons x r ih =>
    show firstU (x :: (r ++ a)) (x :: (r ++ b)) = _
    conv => lhs; unfold firstU
    rw [if_pos rfl, ih]
    rfl
theorem parts_first {p1 p2 : Prs} {o1 o2 : Orc} {L : List Asked} {k y : Str} {r1 r2 : Run} (h : Parts p1 p2 o1 o2 L k y r1 r2) : firstU r1.1 r2.1 = (L.length, (k, y)) := by
  have key : ∀ a b : List Asked, r1.1 = L ++ a → r2.1 = L ++ b → firstU a b = (0, (k, y)) → firstU r1.1 r2.1 = (L.length, (k, y)) := fun a b h1 h2 h3 => by
    rw [h1, h2, firstU_pre, h3, Nat.zero_add]
  have two : ∀ v1 v2 : Option PyData, v1 ≠ v2 → ∀ t1 t2, firstU ((k, y, v1) :: t1) ((k, y, v2) :: t2) = (0, (k, y)) := fun v1 v2 hv t1 t2 => by
    unfold firstU
    rw [if_neg fun e => hv (by injection e with _ e; injection e with _ e)]
  rcases h with ⟨_, hne, s1, s2⟩ | ⟨_, hne, ⟨t1, e1⟩, ⟨t2, e2⟩⟩
  · cases h1 : o1 y with
    | none =>
      cases h2 : o2 y with
      | none => exact absurd (h1.trans h2.symm) hne
      | some v2 =>
        rw [h1] at s1
        rw [h2] at s2
        have s1 : r1 = (L, .stuck y) := s1
        obtain ⟨t2, e2⟩ := s2
        exact key [] _ (by rw [s1, List.append_nil]) e2 rfl
    | some v1 =>
      rw [h1] at s1
      obtain ⟨t1, e1⟩ := s1
      cases h2 : o2 y with
      | none =>
        rw [h2] at s2
        have s2 : r2 = (L, .stuck y) := s2
        exact key _ [] e1 (by rw [s2, List.append_nil]) rfl
      | some v2 =>
        rw [h2] at s2
        obtain ⟨t2, e2⟩ := s2
        exact key _ _ e1 e2 (two v1 v2 (fun e => hne (by rw [h1, h2, e])) t1 t2)
  · exact key _ _ e1 e2 (two _ _ (fun e => hne (Option.some.inj e)) t1 t2)
theorem Parts.symm {p1 p2 : Prs} {o1 o2 : Orc} {L : List Asked} {k y : Str} {r1 r2 : Run} (h : Parts p1 p2 o1 o2 L k y r1 r2) : Parts p2 p1 o2 o1 L k y r2 r1 := by
  rcases h with ⟨a, b, c, d⟩ | ⟨a, b, c, d⟩
  · exact .inl ⟨a, fun e => b e.symm, d, c⟩
  · exact .inr ⟨a, fun e => b e.symm, d, c⟩
/-- a thing's full run -/
noncomputable def frun (p : Prs) (z : Str) : Run := match lookP p z with
  | some s => goneO p (orcT p) z s
  | none => ([], .fault "told")
theorem frun_full {p : Prs} (hp : PrsOk p) (h : p.length ≤ 50) {z : Str} (ht : Thing p z) : fullRun p z = frun p z := by
  obtain ⟨s, hl, hk⟩ := ht
  unfold frun
  rw [hl]
  exact full_det hp h hl hk
structure Two (p1 p2 : Prs) : Prop where
  h1 : PrsOk p1
  h2 : PrsOk p2
  l1 : p1.length ≤ 50
  l2 : p2.length ≤ 50
theorem Two.both {p1 p2 : Prs} (T : Two p1 p2) : Both p1 p2 (orcT p1) (orcT p2) := ⟨T.h1, T.h2, orcT_ok T.h1 T.l1, orcT_ok T.h2 T.l2⟩
theorem Two.symm {p1 p2 : Prs} (T : Two p1 p2) : Two p2 p1 := ⟨T.h2, T.h1, T.l2, T.l1⟩
/-- z stands otherwise in the two -/
def Dfr (p1 p2 : Prs) (z : Str) : Prop := orcT p1 z ≠ orcT p2 z
theorem dfr_stand {p1 p2 : Prs} {z : Str} : Dfr p1 p2 z ↔ standD p1 z ≠ standD p2 z := by
  unfold Dfr standD
  rw [← orcT_fix p1 z, ← orcT_fix p2 z]
  exact ⟨fun h e => h (stand_asked e), fun h e => h (asked_stand e)⟩
/-- the same source, and yet it stands otherwise: a thing, and its runs part -/
theorem dfr_parts {p1 p2 : Prs} (T : Two p1 p2) {z : Str} (hd : Dfr p1 p2 z) (hs : lookP p1 z = lookP p2 z) : ∃ s, lookP p1 z = some s ∧ s.k ≠ "leaf" ∧ ∃ L k y, Parts p1 p2 (orcT p1) (orcT p2) L k y (goneO p1 (orcT p1) z s) (goneO p2 (orcT p2) z s) := by
  unfold Dfr at hd
  rw [← orcT_fix p1 z, ← orcT_fix p2 z] at hd
  unfold gotO at hd
  rw [← hs] at hd
  cases hl : lookP p1 z with
  | none => rw [hl] at hd; exact absurd rfl hd
  | some s =>
    rw [hl] at hd
    dsimp only at hd
    by_cases hk : s.k = "leaf"
    · rw [if_pos hk, if_pos hk] at hd; exact absurd rfl hd
    · rw [if_neg hk, if_neg hk] at hd
      refine ⟨s, rfl, hk, ?_⟩
      have hn := T.h1.nm _ (lookP_mem hl)
      rcases goneO_par T.both (s := s) hn with e | h
      · rw [e] at hd; exact absurd rfl hd
      · exact h
theorem parts_dfr {p1 p2 : Prs} {L : List Asked} {k y : Str} {r1 r2 : Run} (h : Parts p1 p2 (orcT p1) (orcT p2) L k y r1 r2) (hk : k = "thing" ∨ k = "rule") : Dfr p1 p2 y := by
  rcases h with ⟨_, b, _⟩ | ⟨a, _⟩
  · exact b
  · rcases hk with e | e <;> rcases a with e2 | e2 <;> exact absurd (e.symm.trans e2) (by decide)
/-- what it asks is answered a turn sooner -/
theorem rank_down {p1 p2 : Prs} (T : Two p1 p2) {z : Str} {s : Src} {n : Nat} (hr : RankD p1 (n + 1) z) (hl : lookP p1 z = some s) (hk : s.k ≠ "leaf") {L : List Asked} {k y : Str} {r2 : Run}
    (h : Parts p1 p2 (orcT p1) (orcT p2) L k y (goneO p1 (orcT p1) z s) r2) (hk2 : k = "thing" ∨ k = "rule") : RankD p1 n y := by
  have ns := rank_ns hl hk n hr
  have e := goneO_mono (orc_leT p1 n) ns
  have hn := T.h1.nm _ (lookP_mem hl)
  rcases h with ⟨_, _, s1, _⟩ | ⟨a, _⟩
  · cases ho : orcT p1 y with
    | none =>
      rw [ho] at s1
      have s1 : goneO p1 (orcT p1) z s = (L, .stuck y) := s1
      rw [e] at s1
      rw [s1] at ns
      exact ns.elim
    | some v =>
      rw [ho] at s1
      obtain ⟨t, ht⟩ := s1
      rw [e] at ht
      have hm : (k, y, v) ∈ (goneO p1 (orc p1 n) z s).1 := by rw [ht]; exact List.mem_append_right _ (List.mem_cons_self ..)
      exact ⟨v, goneO_asked T.h1 (fun y v hy h => orcT_ok T.h1 T.l1 y v hy (orc_leT p1 n y v h)) hn _ hm hk2⟩
  · rcases hk2 with e | e <;> rcases a with e2 | e2 <;> exact absurd (e.symm.trans e2) (by decide)
/-- the way down from z: names, numbers, the last thing (none: the source) -/
inductive RW (p1 p2 : Prs) : Str → List Str → List Nat → Option (Str × Str) → Prop
  | src {z : Str} : lookP p1 z ≠ lookP p2 z → RW p1 p2 z [] [] none
  | look {z : Str} : lookP p1 z = lookP p2 z → ((firstU (frun p1 z).1 (frun p2 z).1).2.1 = "has" ∨ (firstU (frun p1 z).1 (frun p2 z).1).2.1 = "names") → RW p1 p2 z [] [] (some (firstU (frun p1 z).1 (frun p2 z).1).2)
  | step {z : Str} {ns : List Str} {ps : List Nat} {l : Option (Str × Str)} : lookP p1 z = lookP p2 z → ¬ ((firstU (frun p1 z).1 (frun p2 z).1).2.1 = "has" ∨ (firstU (frun p1 z).1 (frun p2 z).1).2.1 = "names") →
      RW p1 p2 (firstU (frun p1 z).1 (frun p2 z).1).2.2 ns ps l → RW p1 p2 z ((firstU (frun p1 z).1 (frun p2 z).1).2.2 :: ns) ((firstU (frun p1 z).1 (frun p2 z).1).1 :: ps) l
theorem RW.fn {p1 p2 : Prs} {z : Str} {ns ns' : List Str} {ps ps' : List Nat} {l l' : Option (Str × Str)} (h : RW p1 p2 z ns ps l) (h' : RW p1 p2 z ns' ps' l') : ns = ns' ∧ ps = ps' ∧ l = l' := by
  induction h generalizing ns' ps' l' with
  | src a => cases h' with
    | src _ => exact ⟨rfl, rfl, rfl⟩
    | look b _ => exact absurd b a
    | step b _ _ => exact absurd b a
  | look a b => cases h' with
    | src c => exact absurd a c
    | look _ _ => exact ⟨rfl, rfl, rfl⟩
    | step _ c _ => exact absurd b c
  | step a b _ ih => cases h' with
    | src c => exact absurd a c
    | look _ c => exact absurd c b
    | step _ _ c =>
      obtain ⟨e1, e2, e3⟩ := ih c
      rw [e1, e2, e3]
      exact ⟨rfl, rfl, rfl⟩
/-- at a name that stands otherwise by the same source -/
theorem first_at {p1 p2 : Prs} (T : Two p1 p2) {z : Str} (hd : Dfr p1 p2 z) (hs : lookP p1 z = lookP p2 z) : Thing p1 z ∧ Thing p2 z ∧ ∃ s L k y, lookP p1 z = some s ∧ s.k ≠ "leaf" ∧ frun p1 z = goneO p1 (orcT p1) z s ∧ frun p2 z = goneO p2 (orcT p2) z s ∧
    Parts p1 p2 (orcT p1) (orcT p2) L k y (goneO p1 (orcT p1) z s) (goneO p2 (orcT p2) z s) ∧ firstU (frun p1 z).1 (frun p2 z).1 = (L.length, (k, y)) := by
  obtain ⟨s, hl, hk, L, k, y, hP⟩ := dfr_parts T hd hs
  have e1 : frun p1 z = goneO p1 (orcT p1) z s := by unfold frun; rw [hl]
  have hl2 : lookP p2 z = some s := hs ▸ hl
  have e2 : frun p2 z = goneO p2 (orcT p2) z s := by unfold frun; rw [hl2]
  exact ⟨⟨s, hl, hk⟩, ⟨s, hl2, hk⟩, s, L, k, y, hl, hk, e1, e2, hP, by rw [e1, e2]; exact parts_first hP⟩
theorem parts_kind {p1 p2 : Prs} {o1 o2 : Orc} {L : List Asked} {k y : Str} {r1 r2 : Run} (h : Parts p1 p2 o1 o2 L k y r1 r2) : ((k = "thing" ∨ k = "rule") ∧ ¬ (k = "has" ∨ k = "names")) ∨ (k = "has" ∨ k = "names") := by
  rcases h with ⟨a, _⟩ | ⟨a, _⟩
  · refine .inl ⟨a, fun b => ?_⟩
    rcases a with e | e <;> rcases b with e2 | e2 <;> exact absurd (e.symm.trans e2) (by decide)
  · exact .inr a
theorem RW.tot {p1 p2 : Prs} (T : Two p1 p2) : ∀ (n : Nat) (z : Str), RankD p1 n z ∨ RankD p2 n z → Dfr p1 p2 z → ∃ ns ps l, RW p1 p2 z ns ps l
  | 0, z, h, _ => by
    rcases h with ⟨v, e⟩ | ⟨v, e⟩ <;> cases e
  | n + 1, z, h, hd => by
    by_cases hs : lookP p1 z = lookP p2 z
    · obtain ⟨_, _, s, L, k, y, hl, hk, e1, e2, hP, hF⟩ := first_at T hd hs
      rcases parts_kind hP with ⟨a, b⟩ | a
      · have hr : RankD p1 n y ∨ RankD p2 n y := by
          rcases h with h | h
          · exact .inl (rank_down T h hl hk hP a)
          · exact .inr (rank_down T.symm h (hs ▸ hl) hk hP.symm a)
        obtain ⟨ns, ps, l, ih⟩ := RW.tot T n y hr (parts_dfr hP a)
        refine ⟨_, _, l, .step hs (by rw [hF]; exact b) (ns := ns) (ps := ps) ?_⟩
        rw [hF]
        exact ih
      · exact ⟨[], [], _, .look hs (by rw [hF]; exact a)⟩
    · exact ⟨[], [], none, .src hs⟩
theorem RW.ex {p1 p2 : Prs} (T : Two p1 p2) {z : Str} (hd : Dfr p1 p2 z) : ∃ ns ps l, RW p1 p2 z ns ps l := by
  cases h1 : orcT p1 z with
  | some v =>
    obtain ⟨n, e⟩ := orcT_ex h1
    exact RW.tot T n z (.inl ⟨v, e⟩) hd
  | none =>
    cases h2 : orcT p2 z with
    | some v =>
      obtain ⟨n, e⟩ := orcT_ex h2
      exact RW.tot T n z (.inr ⟨v, e⟩) hd
    | none => exact absurd (h1.trans h2.symm) hd
end Aw

namespace Aw
open PySem PySem.Spec PyProof.Rows L2

local macro_rules | `(tactic| walk_at "rd1") => `(tactic| first
  | ((with_reducible apply i_var); exact rfl)
  | with_reducible refine i_c ?_
  | with_reducible refine i_op ?_
  | with_reducible refine i_un ?_
  | with_reducible refine i_test ?_
  | with_reducible refine i_tB ?_
  | with_reducible refine i_bl ?_
  | with_reducible refine i_and ?_
  | with_reducible refine i_or ?_
  | with_reducible refine i_not ?_
  | with_reducible refine i_andV ?_
  | with_reducible refine i_orV ?_
  | with_reducible refine i_notV ?_
  | with_reducible refine i_if ?_
  | with_reducible refine i_chain ?_
  | with_reducible refine i_nil ?_
  | with_reducible refine i_cons ?_
  | with_reducible refine i_tup ?_
  | with_reducible refine i_lst ?_
  | with_reducible refine i_cb ?_
  | with_reducible refine i_call ?_
  | with_reducible refine i_bm ?_
  | with_reducible refine i_m1 ?_
  | with_reducible refine i_m0 ?_
  | with_reducible refine i_exstr ?_
  | with_reducible refine i_sl ?_
  | with_reducible refine i_nopart ?_
  | with_reducible refine i_part ?_
  | with_reducible refine i_int ?_
  | with_reducible refine i_seq ?_
  | with_reducible refine i_next ?_
  | with_reducible refine i_asg ?_
  | with_reducible refine i_gname ?_
  | with_reducible refine i_ret ?_
  | with_reducible refine i_retN ?_
  | with_reducible refine i_drop ?_
  | with_reducible refine i_ifS ?_
  | with_reducible refine i_break ?_
  | with_reducible refine i_cont ?_
  | ((with_reducible apply i_aug); exact rfl)
  | with_reducible refine i_add_i ?_
  | with_reducible refine i_sub ?_
  | with_reducible refine i_neg ?_
  | with_reducible refine i_ipadd_i ?_
  | with_reducible refine i_ip ?_
  | with_reducible refine i_lt ?_
  | with_reducible refine i_le ?_
  | with_reducible refine i_gt ?_
  | with_reducible refine i_ge ?_
  | with_reducible refine i_lt_s ?_
  | with_reducible refine i_le_s ?_
  | with_reducible refine i_gt_s ?_
  | with_reducible refine i_ge_s ?_
  | with_reducible refine i_isN ?_
  | with_reducible refine i_notN ?_
  | with_reducible refine i_in_c ?_
  | with_reducible refine i_nin_c ?_
  | with_reducible refine i_gsub ?_
  | with_reducible refine i_gcons ?_
  | with_reducible refine i_gnil ?_
  | with_reducible refine i_iList ?_
  | with_reducible refine i_iTup ?_
  | with_reducible refine i_iStr ?_
  | with_reducible refine i_iRng1 ?_
  | with_reducible refine i_lc ?_
  | with_reducible refine i_for ?_
  | with_reducible refine i_yes ?_
  | with_reducible refine i_repl ?_
  | with_reducible refine i_meth ?_
  | with_reducible refine i_fld ?_
  | with_reducible refine i_sfld ?_
  | with_reducible refine i_din ?_
  | with_reducible refine i_dnin ?_
  | with_reducible refine i_dget ?_
  | with_reducible refine i_dput ?_
  | with_reducible refine i_joined ?_
  | with_reducible refine i_callS ?_
  | with_reducible refine i_xf ?_
  | with_reducible refine i_revL ?_
  | with_reducible refine i_items ?_
  | with_reducible refine i_stepL ?_
  | with_reducible refine i_make ?_
  | with_reducible refine i_fmt ?_
  | with_reducible refine i_jcons ?_
  | with_reducible refine i_jnil ?_
  | with_reducible refine i_iEnum ?_
  | with_reducible refine i_faug ?_
  | with_reducible refine i_dget2 ?_
  | with_reducible refine i_kin ?_
  | with_reducible refine i_kix ?_
  | with_reducible refine i_bm0 ?_
  | with_reducible refine i_meth ?_
  | with_reducible refine iteT ?_
  | with_reducible refine iteF ?_
  | with_reducible refine iteNT ?_
  | with_reducible refine iteNF ?_
  | ((with_reducible refine i_len_s ?_ ?_); (first | assumption | exact szl (by assumption)))
  | ((with_reducible refine i_sl_s ?_ ?_); (first | assumption | exact szl (by assumption)))
  | with_reducible refine i_int_b ?_
  | with_reducible refine i_abs ?_
  | with_reducible refine i_min2 ?_
  | with_reducible refine i_eq rfl ?_
  | with_reducible refine i_ne rfl ?_
  | with_reducible refine iteDR ?_
  | with_reducible refine iteRN ?_
  | with_reducible refine iteI1 ?_
  | with_reducible refine iteI2 ?_
  | with_reducible refine iteI3 ?_
  | with_reducible refine iteI4 ?_
  | with_reducible refine iteSN ?_
  | with_reducible refine iteNDR ?_
  | with_reducible refine iteNRN ?_
  | with_reducible refine iteNSN ?_
  | with_reducible refine iteST (by first | rfl | decide) ?_
  | with_reducible refine iteSF (by decide) ?_
  | with_reducible refine iteNST (by first | rfl | decide) ?_
  | with_reducible refine iteNSF (by decide) ?_)
local macro_rules | `(tactic| walk_at "rd") => `(tactic| repeat walk_at "rd1")

abbrev s_answer_of : Stmt := topS 49
theorem sc_answer_of : FnScope ["project", "name"] ["project", "name"] (defScope s_answer_of) := ⟨rfl, rfl, rfl, by decide +kernel, rfl, by decide +kernel, by decide +kernel⟩
section
variable {P : Program} {w : World} {K : PySem.W.Frag} {mg : Str → Option Value} {base : Heap}
def spAnsOf (K : PySem.W.Frag) (CP : Addr) : Sp := fun vs H Q _ => ∃ (p : Addr) (prs : Prs) (z : Str), vs = [.ref p, .str z] ∧ IsPr K CP H p prs ∧ PrsOk prs ∧ prs.length ≤ 50 ∧ nameOk z = true ∧ ∀ H' v, Same H H' → Dt K H' (gotO prs (orcT prs) z).py v → Q v H'
theorem ok_answer_of {CP CW : Addr} (D : Df K mg "answer_of" "answer_of" s_answer_of ["project", "name"]) (TW : WCls K CW) (C_plain_walk : Cal P w K mg base CX0 "plain_walk" ["project", "name"] 225 (spPlainWalk K CP CW)) (M_answer : CalM P w K mg base CX0 CW "answer" ["self", "name"] (4 * 50 + 24) (spWAns K CP CW 50)) :
    Cal P w K mg base CX0 "answer_of" ["project", "name"] 226 (spAnsOf K CP) := by
  refine D.cal fun f fd F => F.ok sc_answer_of (fun vs H Q E h => ?_) (fun cdv A outer s H vs Q E hr h => ?_)
  · obtain ⟨_, _, _, rfl, _⟩ := h
    rfl
  · obtain ⟨p, prs, z, rfl, hp, ok, h50, hz, q⟩ := h
    refine ⟨_, (pss_one (ps_ret (pe_mcal M_answer TW.cl hr (pe_cal C_plain_walk hr (by rfl) (pa_cons (pv 0) (pa_cons (pv 1) pa_nil))) (pa_cons (pv 1) pa_nil)))), ?_⟩
    walk_at "rd"
    refine ⟨p, prs, z, rfl, hp, ok, h50, hz, fun H1 wa fr on s1 hw => ?_⟩
    obtain ⟨dx, kvs, h1, h2, h3, h4, h5, h6, h7, h8⟩ := id hw
    have hk := (top_ok ok hz).2
    obtain ⟨t, et, ht⟩ := hk.more
    have hfree : freeN prs [] ≤ 50 := Nat.le_trans free_le h50
    refine i_mk h5 rfl ?_
    walk_at "rd"
    refine ⟨H, wa, fr, on, p, prs, [], (pTop prs z).2, z, rfl, hw, ⟨ok, hk.ok, fun q hq => ?_, by show 0 + _ ≤ 60; omega⟩, hz, hfree, fun H2 v f2 hw2 hv => ?_⟩
    · rw [et, List.nil_append] at hq
      exact (ht q hq).1.nm
    · rw [again_det h50 (top_det h50 z).2 z] at hv
      obtain ⟨_, _, _, s2, _⟩ := id hw2
      exact q H2 v s2 hv
end
end Aw

namespace Aw
open PySem PySem.Spec PyProof.Rows L2

local macro_rules | `(tactic| walk_at "rd1") => `(tactic| first
  | ((with_reducible apply i_var); exact rfl)
  | with_reducible refine i_c ?_
  | with_reducible refine i_op ?_
  | with_reducible refine i_un ?_
  | with_reducible refine i_test ?_
  | with_reducible refine i_tB ?_
  | with_reducible refine i_bl ?_
  | with_reducible refine i_and ?_
  | with_reducible refine i_or ?_
  | with_reducible refine i_not ?_
  | with_reducible refine i_andV ?_
  | with_reducible refine i_orV ?_
  | with_reducible refine i_notV ?_
  | with_reducible refine i_if ?_
  | with_reducible refine i_chain ?_
  | with_reducible refine i_nil ?_
  | with_reducible refine i_cons ?_
  | with_reducible refine i_tup ?_
  | with_reducible refine i_lst ?_
  | with_reducible refine i_cb ?_
  | with_reducible refine i_call ?_
  | with_reducible refine i_bm ?_
  | with_reducible refine i_m1 ?_
  | with_reducible refine i_m0 ?_
  | with_reducible refine i_exstr ?_
  | with_reducible refine i_sl ?_
  | with_reducible refine i_nopart ?_
  | with_reducible refine i_part ?_
  | with_reducible refine i_int ?_
  | with_reducible refine i_seq ?_
  | with_reducible refine i_next ?_
  | with_reducible refine i_asg ?_
  | with_reducible refine i_gname ?_
  | with_reducible refine i_ret ?_
  | with_reducible refine i_retN ?_
  | with_reducible refine i_drop ?_
  | with_reducible refine i_ifS ?_
  | with_reducible refine i_break ?_
  | with_reducible refine i_cont ?_
  | ((with_reducible apply i_aug); exact rfl)
  | with_reducible refine i_add_i ?_
  | with_reducible refine i_sub ?_
  | with_reducible refine i_neg ?_
  | with_reducible refine i_ipadd_i ?_
  | with_reducible refine i_ip ?_
  | with_reducible refine i_lt ?_
  | with_reducible refine i_le ?_
  | with_reducible refine i_gt ?_
  | with_reducible refine i_ge ?_
  | with_reducible refine i_lt_s ?_
  | with_reducible refine i_le_s ?_
  | with_reducible refine i_gt_s ?_
  | with_reducible refine i_ge_s ?_
  | with_reducible refine i_isN ?_
  | with_reducible refine i_notN ?_
  | with_reducible refine i_in_c ?_
  | with_reducible refine i_nin_c ?_
  | with_reducible refine i_gsub ?_
  | with_reducible refine i_gcons ?_
  | with_reducible refine i_gnil ?_
  | with_reducible refine i_iList ?_
  | with_reducible refine i_iTup ?_
  | with_reducible refine i_iStr ?_
  | with_reducible refine i_iRng1 ?_
  | with_reducible refine i_lc ?_
  | with_reducible refine i_for ?_
  | with_reducible refine i_yes ?_
  | with_reducible refine i_repl ?_
  | with_reducible refine i_meth ?_
  | with_reducible refine i_fld ?_
  | with_reducible refine i_sfld ?_
  | with_reducible refine i_din ?_
  | with_reducible refine i_dnin ?_
  | with_reducible refine i_dget ?_
  | with_reducible refine i_dput ?_
  | with_reducible refine i_joined ?_
  | with_reducible refine i_callS ?_
  | with_reducible refine i_xf ?_
  | with_reducible refine i_revL ?_
  | with_reducible refine i_items ?_
  | with_reducible refine i_stepL ?_
  | with_reducible refine i_make ?_
  | with_reducible refine i_fmt ?_
  | with_reducible refine i_jcons ?_
  | with_reducible refine i_jnil ?_
  | with_reducible refine i_iEnum ?_
  | with_reducible refine i_faug ?_
  | with_reducible refine i_dget2 ?_
  | with_reducible refine i_kin ?_
  | with_reducible refine i_kix ?_
  | with_reducible refine i_bm0 ?_
  | with_reducible refine i_meth ?_
  | with_reducible refine iteT ?_
  | with_reducible refine iteF ?_
  | with_reducible refine iteNT ?_
  | with_reducible refine iteNF ?_
  | ((with_reducible refine i_len_s ?_ ?_); (first | assumption | exact szl (by assumption)))
  | ((with_reducible refine i_sl_s ?_ ?_); (first | assumption | exact szl (by assumption)))
  | with_reducible refine i_int_b ?_
  | with_reducible refine i_abs ?_
  | with_reducible refine i_min2 ?_
  | with_reducible refine i_eq rfl ?_
  | with_reducible refine i_ne rfl ?_
  | with_reducible refine iteDR ?_
  | with_reducible refine iteRN ?_
  | with_reducible refine iteI1 ?_
  | with_reducible refine iteI2 ?_
  | with_reducible refine iteI3 ?_
  | with_reducible refine iteI4 ?_
  | with_reducible refine iteSN ?_
  | with_reducible refine iteNDR ?_
  | with_reducible refine iteNRN ?_
  | with_reducible refine iteNSN ?_
  | with_reducible refine iteST (by first | rfl | decide) ?_
  | with_reducible refine iteSF (by decide) ?_
  | with_reducible refine iteNST (by first | rfl | decide) ?_
  | with_reducible refine iteNSF (by decide) ?_)
local macro_rules | `(tactic| walk_at "rd") => `(tactic| repeat walk_at "rd1")

section
variable {P : Program} {w : World} {K : PySem.W.Frag} {mg : Str → Option Value} {base : Heap}
theorem asked_cmp {a : Asked} (h : FAskOk a) : cmpOk a.py := by
  have hk : PyData.canLay0 (.str a.1) = true := by rcases h.k with e | e | e | e <;> rw [e] <;> decide +kernel
  have hz := good_lay _ (treeOk_good h.z).g
  have ha : PyData.canLay0 (ansPy a.2.2) = true ∧ (ansPy a.2.2).depth ≤ 15 := by
    cases e : a.2.2 with
    | none => exact ⟨rfl, by show _ ≤ 15; decide⟩
    | some d =>
      have g := treeOk_good (h.d d e)
      have := depth_tdeep _ g.g
      have := g.dp
      exact ⟨good_lay _ g.g, by show d.depth ≤ 15; omega⟩
  refine ⟨?_, ?_⟩
  · unfold Asked.py
    simp only [PyData.canLay0, PyData.canLayAll0] at hk hz ⊢
    rw [hk, hz, ha.1]
    rfl
  · unfold Asked.py
    simp only [PyData.depth, PyData.depthAll]
    omega
mutual
theorem eqv_eq : ∀ (d e : PyData), good d = true → good e = true → PyData.eqv d e = true → d = e
  | .str a, .str b, _, _, h => by
    have h : (a == b) = true := by simpa [PyData.eqv] using h
    rw [beq_iff_eq.mp h]
  | .tuple ds, .tuple es, h1, h2, h => by
    simp only [good, Bool.and_eq_true] at h1 h2
    rw [PyData.eqv] at h
    rw [eqvs_eq ds es h1.2 h2.2 h]
  | .str a, .tuple es, _, _, h => by simp [PyData.eqv] at h
  | .tuple ds, .str b, _, _, h => by simp [PyData.eqv] at h
  | .none, _, h, _, _ => by simp [good] at h
  | .bool _, _, h, _, _ => by simp [good] at h
  | .int _, _, h, _, _ => by simp [good] at h
  | .list _, _, h, _, _ => by simp [good] at h
  | .dict _, _, h, _, _ => by simp [good] at h
  | _, .none, _, h, _ => by simp [good] at h
  | _, .bool _, _, h, _ => by simp [good] at h
  | _, .int _, _, h, _ => by simp [good] at h
  | _, .list _, _, h, _ => by simp [good] at h
  | _, .dict _, _, h, _ => by simp [good] at h
theorem eqvs_eq : ∀ (ds es : List PyData), goods ds = true → goods es = true → PyData.eqvAll ds es = true → ds = es
  | [], [], _, _, _ => rfl
  | [], _ :: _, _, _, h => by simp [PyData.eqvAll] at h
  | _ :: _, [], _, _, h => by simp [PyData.eqvAll] at h
  | d :: ds, e :: es, h1, h2, h => by
    simp only [goods, Bool.and_eq_true] at h1 h2
    simp only [PyData.eqvAll, Bool.and_eq_true] at h
    rw [eqv_eq d e h1.1 h2.1 h.1, eqvs_eq ds es h1.2 h2.2 h.2]
end
theorem asked_eqv {a b : Asked} (ha : FAskOk a) (hb : FAskOk b) : PyData.eqv a.py b.py = true ↔ a = b := by
  constructor
  · intro h
    obtain ⟨k, z, o⟩ := a
    obtain ⟨k', z', o'⟩ := b
    unfold Asked.py at h
    simp only [PyData.eqv, PyData.eqvAll, Bool.and_eq_true, and_true] at h
    obtain ⟨⟨h1, h2⟩, h3⟩ := h
    have e1 : k = k' := by simpa using h1
    have e2 : z = z' := by simpa using h2
    subst e1 e2
    cases o with
    | none =>
      cases o' with
      | none => rfl
      | some d' =>
        have g := (treeOk_good (hb.d d' rfl)).g
        cases d' with
        | str z => simp [ansPy, PyData.eqv] at h3
        | tuple ds => simp [ansPy, PyData.eqv] at h3
        | _ => simp [good] at g
    | some d =>
      have g := (treeOk_good (ha.d d rfl)).g
      cases o' with
      | none =>
        cases d with
        | str z => simp [ansPy, PyData.eqv] at h3
        | tuple ds => simp [ansPy, PyData.eqv] at h3
        | _ => simp [good] at g
      | some d' =>
        have g' := (treeOk_good (hb.d d' rfl)).g
        rw [eqv_eq d d' g g' h3]
  · rintro rfl
    exact SeqAt.eqv_refl _ (asked_cmp ha).1
theorem shaped_c2 {d : PyData} (h : cmpOk d) : SeqAt.shaped d = true := by
  obtain ⟨h1, h2⟩ := h
  unfold SeqAt.shaped
  rw [h1, Bool.true_and]
  exact decide_eq_true (by omega)
theorem good_cmp {d : PyData} (h : good d = true) (t : tdeep d ≤ 16) : cmpOk d := ⟨good_lay _ h, by have := depth_tdeep _ h; omega⟩
theorem stand_good {prs : Prs} (hp : PrsOk prs) (h : prs.length ≤ 50) {z : Str} (hz : nameOk z = true) : good (standD prs z) = true ∧ tdeep (standD prs z) ≤ 16 := by
  have h1 := (top_ok hp hz).1
  rw [(top_det h z).1] at h1
  unfold standD
  cases e : gotO prs (orcT prs) z with
  | lack => exact ⟨by decide +kernel, by decide +kernel⟩
  | going => exact ⟨by decide +kernel, by decide +kernel⟩
  | bad e => exact ⟨by show good (.tuple [.str "none"]) = true; decide +kernel, by show tdeep (.tuple [.str "none"]) ≤ 16; decide +kernel⟩
  | value d =>
    rw [e] at h1
    have g := treeOk_good (show treeOk d = true from h1)
    have := g.dp
    refine ⟨?_, ?_⟩
    · show good (.tuple [.str "value", d]) = true
      simp only [good, goods, g.g, Bool.and_true]
      first | rfl | decide +kernel
    · show tdeep (.tuple [.str "value", d]) ≤ 16
      simp only [tdeep, tdeeps]
      omega
def optPy : Option Src → PyData
  | none => .none
  | some s => s.py
theorem od_dt {H : Hp} {o : Option Src} {v : V} (h : OD K H (o.map Src.py) v) : Dt K H (optPy o) v := by
  cases o with
  | none =>
    have h : v = .non := h
    rw [h]
    exact dt_non
  | some s => exact h
theorem srcPy_good {s : Src} (h : s.ok) : good s.py = true ∧ tdeep s.py ≤ 14 := by
  have hx : treeOk s.x = true := by
    rcases h with ⟨_, z, e, hz⟩ | ⟨_, h⟩
    · rw [e]; exact name_tree hz
    · exact h
  have g := treeOk_good hx
  have := g.dp
  have hk : good (.str s.k) = true := by rcases h with ⟨e, _⟩ | ⟨e | e, _⟩ <;> rw [e] <;> decide +kernel
  refine ⟨?_, ?_⟩
  · unfold Src.py
    simp only [good, goods, Bool.and_true] at hk ⊢
    rw [hk, g.g]
    rfl
  · unfold Src.py
    simp only [tdeep, tdeeps]
    omega
theorem src_good {prs : Prs} (hp : PrsOk prs) (z : Str) : cmpOk (optPy (lookP prs z)) := by
  cases e : lookP prs z with
  | none => exact ⟨rfl, by show PyData.depth .none ≤ 20; decide⟩
  | some s =>
    have g := srcPy_good (hp.sr _ (lookP_mem e))
    exact good_cmp g.1 (Nat.le_trans g.2 (by decide))
open Classical in
theorem src_eqv {p1 p2 : Prs} (h1 : PrsOk p1) (h2 : PrsOk p2) {z : Str} : PyData.eqv (optPy (lookP p1 z)) (optPy (lookP p2 z)) = decide (lookP p1 z = lookP p2 z) := by
  cases e1 : lookP p1 z with
  | none =>
    cases e2 : lookP p2 z with
    | none => simp [optPy, PyData.eqv]
    | some s => simp [optPy, Src.py, PyData.eqv]
  | some s =>
    cases e2 : lookP p2 z with
    | none => simp [optPy, Src.py, PyData.eqv]
    | some s' =>
      have g1 := srcPy_good (h1.sr _ (lookP_mem e1))
      have g2 := srcPy_good (h2.sr _ (lookP_mem e2))
      by_cases h : s = s'
      · subst h
        rw [decide_eq_true rfl]
        exact SeqAt.eqv_refl _ (good_lay _ g1.1)
      · rw [decide_eq_false fun e => h (Option.some.inj e)]
        cases e : PyData.eqv (optPy (some s)) (optPy (some s')) with
        | false => rfl
        | true =>
          have := eqv_eq s.py s'.py g1.1 g2.1 e
          refine absurd ?_ h
          obtain ⟨k, x⟩ := s
          obtain ⟨k', x'⟩ := s'
          unfold Src.py at this
          injection this with this
          injection this with a b
          injection a with a
          injection b with b _
          have a : k = k' := a
          have b : x = x' := b
          subst a b
          rfl
theorem src_eqT {p1 p2 : Prs} (h1 : PrsOk p1) (h2 : PrsOk p2) {z : Str} (h : lookP p1 z = lookP p2 z) : PyData.eqv (optPy (lookP p1 z)) (optPy (lookP p2 z)) = true := by
  classical
  rw [src_eqv h1 h2]
  simpa using h
theorem src_eqF {p1 p2 : Prs} (h1 : PrsOk p1) (h2 : PrsOk p2) {z : Str} (h : ¬ lookP p1 z = lookP p2 z) : PyData.eqv (optPy (lookP p1 z)) (optPy (lookP p2 z)) = false := by
  classical
  rw [src_eqv h1 h2]
  simpa using h
theorem dts_ints {H : Hp} : ∀ {ns : List Nat}, Dts K H (ns.map fun n => PyData.int (n : Nat)) (ns.map fun n => V.int (n : Nat))
  | [] => dts_nil
  | _ :: r => dts_cons dt_int (dts_ints (ns := r))
end
end Aw

/-! where two projects are alike on a foot, the walks are alike -/
namespace Aw
open PySem PySem.Spec PyProof.Rows L2
section
variable {p1 p2 : Prs} {S : Str → Prop}
/-- asks that are of S, or looked up alike -/
def AsksIn (p1 p2 : Prs) (S : Str → Prop) (as : List Asked) : Prop := ∀ a ∈ as, (isTR a = true → S a.2.1) ∧ (isTR a = false → lookedUp p1 a.1 a.2.1 = lookedUp p2 a.1 a.2.1)
theorem isTR_t {z : Str} {o : Option PyData} : isTR ("thing", z, o) = true := (by decide +kernel : (decide (Str.ofString "thing" = Str.ofString "thing") || decide (Str.ofString "thing" = Str.ofString "rule")) = true)
theorem isTR_r {z : Str} {o : Option PyData} : isTR ("rule", z, o) = true := (by decide +kernel : (decide (Str.ofString "rule" = Str.ofString "thing") || decide (Str.ofString "rule" = Str.ofString "rule")) = true)
theorem isTR_l {k z : Str} {o : Option PyData} (h : k = "has" ∨ k = "names") : isTR (k, z, o) = false := by
  have : (decide (k = Str.ofString "thing") || decide (k = Str.ofString "rule")) = false := by rcases h with e | e <;> rw [e] <;> decide +kernel
  exact this
def RunsIn (p1 p2 : Prs) (S : Str → Prop) (rs : Runs) : Prop := ∀ p ∈ rs, S p.1 ∧ AsksIn p1 p2 S p.2.1
theorem RunsIn.back {op : List Str} {rs rs' : Runs} (h : RunsIn p1 p2 S rs') (k : Kept p1 op rs rs') : RunsIn p1 p2 S rs := by
  obtain ⟨t, e, _⟩ := k.more
  intro p hp
  exact h p (by rw [e]; exact List.mem_append_left _ hp)
theorem asks_name {m : Mac} {k z : Str} (hm : MacOk m) (e : m.st = .asks k z) : (k = "thing" ∧ nameOk z = true) ∨ (k ≠ "thing" ∧ (k = "has" ∨ k = "names")) := by
  have hst := hm.st
  rw [e] at hst
  rcases hst.2.1 with ⟨a, b⟩ | ⟨h, _⟩ | ⟨h, _⟩
  · exact .inl ⟨a, b⟩
  · exact .inr ⟨by rw [h]; decide, .inl h⟩
  · exact .inr ⟨by rw [h]; decide, .inr h⟩
theorem loop_pre (hp : PrsOk p1) {op : List Str} {ask : AskF} (ha : AskOk p1 op ask) : ∀ (n : Nat) {m : Mac} {rs : Runs}, MacOk m → RunsOk rs → ∃ t, (runLoop p1 ask n m rs).1.1 = m.asks ++ t
  | 0, m, rs, _, _ => ⟨[], by unfold runLoop; rw [List.append_nil]⟩
  | n + 1, m, rs, hm, hr => by
    unfold runLoop
    cases e : m.st with
    | asks k z =>
      dsimp only
      rcases asks_name hm e with ⟨hk, hz⟩ | ⟨hk, hk2⟩
      · rw [if_pos hk]
        obtain ⟨k1, k2⟩ := ha rs z hr hz
        cases eo : (ask rs z).1.asked with
        | none => exact ⟨[], (List.append_nil _).symm⟩
        | some o =>
          obtain ⟨a1, _, a3, _⟩ := answer_ok hm e (o := o) (hk ▸ got_ans k1 eo)
          obtain ⟨t, ht⟩ := loop_pre hp ha n a1 k2.ok
          exact ⟨(k, z, o) :: t, by dsimp only; rw [ht, a3, List.append_assoc]; rfl⟩
      · rw [if_neg hk]
        obtain ⟨a1, _, a3, _⟩ := answer_ok hm e (o := some (lookedUp p1 k z)) (looked_ok hp hk2)
        obtain ⟨t, ht⟩ := loop_pre hp ha n a1 hr
        exact ⟨(k, z, some (lookedUp p1 k z)) :: t, by rw [ht, a3, List.append_assoc]; rfl⟩
    | go => exact ⟨[], (List.append_nil _).symm⟩
    | said d => exact ⟨[], (List.append_nil _).symm⟩
    | fault w => exact ⟨[], (List.append_nil _).symm⟩
theorem loop_sim (h1 : PrsOk p1) {op : List Str} {ask1 ask2 : AskF} (ha : AskOk p1 op ask1) (hN : ∀ rs y, RunsOk rs → nameOk y = true → RunsIn p1 p2 S (ask1 rs y).2 → (ask1 rs y).1.asked = none → S y)
    (hA : ∀ rs y, RunsOk rs → nameOk y = true → S y → RunsIn p1 p2 S (ask1 rs y).2 → ask2 rs y = ask1 rs y) : ∀ (n : Nat) {m : Mac} {rs : Runs}, MacOk m → RunsOk rs → RunsIn p1 p2 S (runLoop p1 ask1 n m rs).2 → AsksIn p1 p2 S (runLoop p1 ask1 n m rs).1.1 → runLoop p2 ask2 n m rs = runLoop p1 ask1 n m rs
  | 0, m, rs, _, _, _, _ => rfl
  | n + 1, m, rs, hm, hr, hR, hI => by
    unfold runLoop at hR hI ⊢
    cases e : m.st with
    | asks k z =>
      rw [e] at hR hI
      dsimp only at hR hI ⊢
      rcases asks_name hm e with ⟨hk, hz⟩ | ⟨hk, hk2⟩
      · rw [if_pos hk] at hR hI
        rw [if_pos hk, if_pos hk]
        obtain ⟨k1, k2⟩ := ha rs z hr hz
        cases eo : (ask1 rs z).1.asked with
        | none =>
          rw [eo] at hR hI
          dsimp only at hR hI
          rw [hA rs z hr hz (hN rs z hr hz hR eo) hR, eo]
        | some o =>
          rw [eo] at hR hI
          dsimp only at hR hI
          obtain ⟨a1, _, a3, _⟩ := answer_ok hm e (o := o) (hk ▸ got_ans k1 eo)
          obtain ⟨t, ht⟩ := loop_pre h1 ha n a1 k2.ok
          have hz2 : S z := by
            have := hI (k, z, o) (by rw [ht, a3]; simp)
            exact this.1 (by rw [hk]; exact isTR_t)
          have hk3 := (runLoop_ok h1 ha n a1 k2.ok).2.2.2
          rw [hA rs z hr hz hz2 (hR.back hk3), eo]
          dsimp only
          exact loop_sim h1 ha hN hA n a1 k2.ok hR hI
      · rw [if_neg hk] at hR hI
        rw [if_neg hk, if_neg hk]
        obtain ⟨a1, _, a3, _⟩ := answer_ok hm e (o := some (lookedUp p1 k z)) (looked_ok h1 hk2)
        obtain ⟨t, ht⟩ := loop_pre h1 ha n a1 hr
        have hl : lookedUp p1 k z = lookedUp p2 k z := by
          have := hI (k, z, some (lookedUp p1 k z)) (by rw [ht, a3]; simp)
          exact this.2 (isTR_l hk2)
        rw [← hl]
        exact loop_sim h1 ha hN hA n a1 hr hR hI
    | go => rfl
    | said d => rfl
    | fault w => rfl
theorem runBy_sim (h1 : PrsOk p1) {op : List Str} {ask1 ask2 : AskF} (ha : AskOk p1 op ask1) (hN : ∀ rs y, RunsOk rs → nameOk y = true → RunsIn p1 p2 S (ask1 rs y).2 → (ask1 rs y).1.asked = none → S y)
    (hA : ∀ rs y, RunsOk rs → nameOk y = true → S y → RunsIn p1 p2 S (ask1 rs y).2 → ask2 rs y = ask1 rs y) {name : Str} (hn : nameOk name = true) {rule : PyData} {as : List Asked} {rs : Runs} (hr : RunsOk rs) (hR : RunsIn p1 p2 S (runBy p1 ask1 name rule as rs).2) (hI : AsksIn p1 p2 S (runBy p1 ask1 name rule as rs).1.1) :
    runBy p2 ask2 name rule as rs = runBy p1 ask1 name rule as rs := by
  unfold runBy at hR hI ⊢
  by_cases h : isRule rule = true
  · rw [if_pos h] at hR hI
    rw [if_pos h, if_pos h, loop_sim h1 ha hN hA 302 (begin_ok h hn) hr hR fun a ha => hI a (List.mem_append_right _ ha)]
  · rw [if_neg h, if_neg h]
theorem runBy_pre {ask : AskF} {name : Str} {rule : PyData} {as : List Asked} {rs : Runs} : ∃ t, (runBy p1 ask name rule as rs).1.1 = as ++ t := by
  unfold runBy
  by_cases h : isRule rule = true
  · rw [if_pos h]; exact ⟨_, rfl⟩
  · rw [if_neg h]; exact ⟨[], (List.append_nil _).symm⟩
theorem goneBy_sim (h1 : PrsOk p1) {op : List Str} {ask1 ask2 : AskF} (ha : AskOk p1 op ask1) (hN : ∀ rs y, RunsOk rs → nameOk y = true → RunsIn p1 p2 S (ask1 rs y).2 → (ask1 rs y).1.asked = none → S y)
    (hA : ∀ rs y, RunsOk rs → nameOk y = true → S y → RunsIn p1 p2 S (ask1 rs y).2 → ask2 rs y = ask1 rs y) {name : Str} (hn : nameOk name = true) {s : Src} (hs : s.ok) (hl : s.k ≠ "leaf") {rs : Runs} (hr : RunsOk rs) (hR : RunsIn p1 p2 S (goneBy p1 ask1 name s rs).2) (hI : AsksIn p1 p2 S (goneBy p1 ask1 name s rs).1.1) :
    goneBy p2 ask2 name s rs = goneBy p1 ask1 name s rs := by
  unfold goneBy at hR hI ⊢
  by_cases hk : s.k = "rule"
  · rw [if_pos hk] at hR hI
    rw [if_pos hk, if_pos hk]
    exact runBy_sim h1 ha hN hA hn hr hR hI
  · rw [if_neg hk] at hR hI
    rw [if_neg hk, if_neg hk]
    obtain ⟨e, hz⟩ := srcTxt_ok hs hl hk
    obtain ⟨k1, k2⟩ := ha rs _ hr hz
    cases eo : (ask1 rs (srcTxt s)).1.asked with
    | none =>
      rw [eo] at hR hI
      dsimp only at hR hI
      rw [hA rs _ hr hz (hN rs _ hr hz hR eo) hR, eo]
    | some o =>
      rw [eo] at hR hI
      cases o with
      | none =>
        dsimp only at hR hI
        have hz2 : S (srcTxt s) := (hI _ (List.mem_singleton_self _)).1 isTR_r
        rw [hA rs _ hr hz hz2 hR, eo]
      | some d =>
        dsimp only at hR hI
        obtain ⟨t, ht⟩ := runBy_pre (p1 := p1) (ask := ask1) (name := name) (rule := d) (as := [("rule", srcTxt s, some d)]) (rs := (ask1 rs (srcTxt s)).2)
        have hz2 : S (srcTxt s) := (hI ("rule", srcTxt s, some d) (by rw [ht]; simp)).1 isTR_r
        have hk3 := (runBy_ok h1 ha hn (rule := d) (as := [("rule", srcTxt s, some d)]) (rs := (ask1 rs (srcTxt s)).2) (fun a h => by
          rw [List.mem_singleton.mp h]
          refine ⟨.inr (.inr (.inr rfl)), name_tree hz, fun e he => ?_⟩
          rw [← Option.some.inj he]
          rcases got_ans k1 eo with ⟨_, h⟩ | ⟨h, _⟩ | ⟨h, _⟩
          · exact h d rfl
          · exact absurd h (by decide)
          · exact absurd h (by decide)) (Nat.le_refl _) k2.ok).2
        rw [hA rs _ hr hz hz2 (hR.back hk3), eo]
        dsimp only
        exact runBy_sim h1 ha hN hA hn k2.ok hR hI
theorem ans_none {inner : List Str → AskF} {op : List Str} {rs : Runs} {y : Str} (h : (ansStep p1 inner op rs y).1.asked = none) : y ∈ op ∨ y ∈ (ansStep p1 inner op rs y).2.map (·.1) := by
  unfold ansStep at h ⊢
  cases hl : lookP p1 y with
  | none => rw [hl] at h; cases h
  | some s =>
    rw [hl] at h
    dsimp only at h ⊢
    by_cases hk : s.k = "leaf"
    · rw [if_pos hk] at h; cases h
    · rw [if_neg hk] at h
      rw [if_neg hk]
      by_cases ho : y ∈ op
      · exact .inl ho
      · rw [if_neg ho] at h
        rw [if_neg ho]
        right
        cases hlk : rs.lookup y with
        | some r => exact List.mem_map_of_mem (f := Prod.fst) (lookup_some_mem hlk)
        | none =>
          dsimp only
          rw [List.map_append]
          exact List.mem_append_right _ (List.mem_singleton_self _)
theorem pAns_none {n : Nat} {op : List Str} {rs : Runs} {y : Str} (h : (pAns p1 n op rs y).1.asked = none) : y ∈ op ∨ y ∈ (pAns p1 n op rs y).2.map (·.1) := by
  cases n with
  | zero => exact ans_none h
  | succ n => exact ans_none h
theorem sim (h1 : PrsOk p1) (hS : ∀ z, S z → lookP p1 z = lookP p2 z) : ∀ (n : Nat) (op : List Str) (rs : Runs) (z : Str), freeN p1 op ≤ n → RunsOk rs → nameOk z = true → S z → (∀ o ∈ op, S o) → RunsIn p1 p2 S (pAns p1 n op rs z).2 → pAns p2 n op rs z = pAns p1 n op rs z := by
  have step : ∀ (inner1 inner2 : List Str → AskF) (op : List Str) (rs : Runs) (z : Str), (∀ op, AskOk p1 op (inner1 op)) → RunsOk rs → nameOk z = true → S z → (∀ o ∈ op, S o) → RunsIn p1 p2 S (ansStep p1 inner1 op rs z).2 →
      (z ∈ names p1 → z ∉ op → (∀ rs y, RunsOk rs → nameOk y = true → RunsIn p1 p2 S (inner1 (op ++ [z]) rs y).2 → (inner1 (op ++ [z]) rs y).1.asked = none → S y) ∧
        ∀ rs y, RunsOk rs → nameOk y = true → S y → RunsIn p1 p2 S (inner1 (op ++ [z]) rs y).2 → inner2 (op ++ [z]) rs y = inner1 (op ++ [z]) rs y) → ansStep p2 inner2 op rs z = ansStep p1 inner1 op rs z := by
    intro inner1 inner2 op rs z hi hr hz hz2 hop hR hin
    unfold ansStep at hR ⊢
    rw [← hS z hz2]
    cases hl : lookP p1 z with
    | none => rfl
    | some s =>
      rw [hl] at hR
      dsimp only at hR ⊢
      by_cases hk : s.k = "leaf"
      · rw [if_pos hk, if_pos hk]
      · rw [if_neg hk] at hR
        rw [if_neg hk, if_neg hk]
        by_cases ho : z ∈ op
        · rw [if_pos ho, if_pos ho]
        · rw [if_neg ho] at hR
          rw [if_neg ho, if_neg ho]
          cases hlk : rs.lookup z with
          | some r => rfl
          | none =>
            rw [hlk] at hR
            dsimp only at hR ⊢
            obtain ⟨hN, hA⟩ := hin (mem_names (lookP_mem hl)) ho
            have hg := goneBy_sim h1 (hi (op ++ [z])) hN hA hz (h1.sr _ (lookP_mem hl)) hk hr (fun p hp => hR p (List.mem_append_left _ hp)) (hR (z, _) (List.mem_append_right _ (List.mem_singleton_self _))).2
            rw [hg]
  have hfree : ∀ {op : List Str} {z : Str}, z ∈ names p1 → z ∉ op → 1 ≤ freeN p1 op := fun hz ho => freeN_pos hz ho
  intro n
  induction n with
  | zero =>
    intro op rs z hf hr hz hz2 hop hR
    exact step _ _ op rs z (fun op rs z hr _ => ⟨trivial, .refl hr⟩) hr hz hz2 hop hR fun hz ho => absurd (hfree hz ho) (by omega)
  | succ n ih =>
    intro op rs z hf hr hz hz2 hop hR
    refine step (pAns p1 n) (pAns p2 n) op rs z (pAns_ok h1 n) hr hz hz2 hop hR fun hzn ho => ⟨fun rs y hr hy hR2 hno => ?_, fun rs y hr hy hy2 hR2 => ?_⟩
    · rcases pAns_none hno with h | h
      · rcases List.mem_append.mp h with h | h
        · exact hop y h
        · rw [List.mem_singleton.mp h]; exact hz2
      · obtain ⟨p, hp, rfl⟩ := List.mem_map.mp h
        exact (hR2 p hp).1
    · have h2 := freeN_open hzn ho
      refine ih (op ++ [z]) rs y (by omega) hr hy hy2 (fun o hoo => ?_) hR2
      rcases List.mem_append.mp hoo with h | h
      · exact hop o h
      · rw [List.mem_singleton.mp h]; exact hz2
end
/-! ### from a foot -/
/-- alike on names and looks -/
def Alk (p1 p2 : Prs) (N : List Str) (L : List (Str × Str)) : Prop := (∀ n ∈ N, lookP p1 n = lookP p2 n) ∧ ∀ q ∈ L, lookedUp p1 q.1 q.2 = lookedUp p2 q.1 q.2
theorem top_run {prs : Prs} (hp : PrsOk prs) (h : prs.length ≤ 50) {z : Str} {p : Str × Run} (hm : p ∈ (pTop prs z).2) : p.2 = fullRun prs p.1 := by
  obtain ⟨s, hl, hk, e⟩ := (top_det h z).2 p hm
  rw [e, full_det hp h hl hk]
theorem top_paper {prs : Prs} (hp : PrsOk prs) (h : prs.length ≤ 50) (z : Str) : paperD prs z = (pTop prs z).2 := by
  unfold paperD metBy
  rw [List.map_map]
  conv => rhs; rw [← List.map_id (pTop prs z).2]
  refine List.map_congr_left fun p hm => ?_
  show (p.1, fullRun prs p.1) = p
  rw [← top_run hp h hm]
theorem alike_top {p1 p2 : Prs} (h1 : PrsOk p1) (h2 : PrsOk p2) (l1 : p1.length ≤ 50) (l2 : p2.length ≤ 50) {z : Str} (hz : nameOk z = true) (ha : Alk p1 p2 (footOf (paperD p1 z) z).1 (footOf (paperD p1 z) z).2) : pTop p2 z = pTop p1 z := by
  have hN : ∀ n, n ∈ (footOf (paperD p1 z) z).1 ↔ n = z ∨ n ∈ allN (paperD p1 z) := fun n => by
    unfold footOf
    rw [foot_mem]
    simp
  refine sim (S := fun n => n ∈ (footOf (paperD p1 z) z).1) h1 (fun n hn => ha.1 n hn) 50 [] [] z (Nat.le_trans free_le l1) nil_ok hz ((hN z).mpr (.inl rfl)) (fun o ho => (List.not_mem_nil ho).elim) ?_
  have e := top_paper h1 l1 z
  intro p hp
  have hp : p ∈ (pTop p1 z).2 := hp
  rw [← e] at hp
  refine ⟨(hN _).mpr (.inr ?_), fun a hap => ⟨fun t => (hN _).mpr (.inr ?_), fun t => ?_⟩⟩
  · unfold allN
    exact List.mem_flatMap.mpr ⟨p, hp, List.mem_cons_self ..⟩
  · unfold allN
    exact List.mem_flatMap.mpr ⟨p, hp, List.mem_cons_of_mem _ (List.mem_map_of_mem (f := fun a : Asked => a.2.1) (List.mem_filter.mpr ⟨hap, t⟩))⟩
  · refine ha.2 (a.1, a.2.1) ?_
    unfold footOf
    rw [foot_look]
    refine (looks_mem _ _).mpr (.inr ⟨a, ?_, rfl⟩)
    unfold allL
    exact List.mem_flatMap.mpr ⟨p, hp, List.mem_filter.mpr ⟨hap, by rw [t]; rfl⟩⟩
theorem alike_paper {p1 p2 : Prs} (h1 : PrsOk p1) (h2 : PrsOk p2) (l1 : p1.length ≤ 50) (l2 : p2.length ≤ 50) {z : Str} (hz : nameOk z = true) (ha : Alk p1 p2 (footOf (paperD p1 z) z).1 (footOf (paperD p1 z) z).2) : paperD p2 z = paperD p1 z := by
  rw [top_paper h2 l2, top_paper h1 l1, alike_top h1 h2 l1 l2 hz ha]
theorem alike_got {p1 p2 : Prs} (h1 : PrsOk p1) (h2 : PrsOk p2) (l1 : p1.length ≤ 50) (l2 : p2.length ≤ 50) {z : Str} (hz : nameOk z = true) (ha : Alk p1 p2 (footOf (paperD p1 z) z).1 (footOf (paperD p1 z) z).2) : gotO p2 (orcT p2) z = gotO p1 (orcT p1) z := by
  rw [← (top_det l2 z).1, ← (top_det l1 z).1, alike_top h1 h2 l1 l2 hz ha]
end Aw

namespace Aw
open PySem PySem.Spec PyProof.Rows L2

local macro_rules | `(tactic| walk_at "rd1") => `(tactic| first
  | ((with_reducible apply i_var); exact rfl)
  | with_reducible refine i_c ?_
  | with_reducible refine i_op ?_
  | with_reducible refine i_un ?_
  | with_reducible refine i_test ?_
  | with_reducible refine i_tB ?_
  | with_reducible refine i_bl ?_
  | with_reducible refine i_and ?_
  | with_reducible refine i_or ?_
  | with_reducible refine i_not ?_
  | with_reducible refine i_andV ?_
  | with_reducible refine i_orV ?_
  | with_reducible refine i_notV ?_
  | with_reducible refine i_if ?_
  | with_reducible refine i_chain ?_
  | with_reducible refine i_nil ?_
  | with_reducible refine i_cons ?_
  | with_reducible refine i_tup ?_
  | with_reducible refine i_lst ?_
  | with_reducible refine i_cb ?_
  | with_reducible refine i_call ?_
  | with_reducible refine i_bm ?_
  | with_reducible refine i_m1 ?_
  | with_reducible refine i_m0 ?_
  | with_reducible refine i_exstr ?_
  | with_reducible refine i_sl ?_
  | with_reducible refine i_nopart ?_
  | with_reducible refine i_part ?_
  | with_reducible refine i_int ?_
  | with_reducible refine i_seq ?_
  | with_reducible refine i_next ?_
  | with_reducible refine i_asg ?_
  | with_reducible refine i_gname ?_
  | with_reducible refine i_ret ?_
  | with_reducible refine i_retN ?_
  | with_reducible refine i_drop ?_
  | with_reducible refine i_ifS ?_
  | with_reducible refine i_break ?_
  | with_reducible refine i_cont ?_
  | ((with_reducible apply i_aug); exact rfl)
  | with_reducible refine i_add_i ?_
  | with_reducible refine i_sub ?_
  | with_reducible refine i_neg ?_
  | with_reducible refine i_ipadd_i ?_
  | with_reducible refine i_ip ?_
  | with_reducible refine i_lt ?_
  | with_reducible refine i_le ?_
  | with_reducible refine i_gt ?_
  | with_reducible refine i_ge ?_
  | with_reducible refine i_lt_s ?_
  | with_reducible refine i_le_s ?_
  | with_reducible refine i_gt_s ?_
  | with_reducible refine i_ge_s ?_
  | with_reducible refine i_isN ?_
  | with_reducible refine i_notN ?_
  | with_reducible refine i_in_c ?_
  | with_reducible refine i_nin_c ?_
  | with_reducible refine i_gsub ?_
  | with_reducible refine i_gcons ?_
  | with_reducible refine i_gnil ?_
  | with_reducible refine i_iList ?_
  | with_reducible refine i_iTup ?_
  | with_reducible refine i_iStr ?_
  | with_reducible refine i_iRng1 ?_
  | with_reducible refine i_lc ?_
  | with_reducible refine i_for ?_
  | with_reducible refine i_yes ?_
  | with_reducible refine i_repl ?_
  | with_reducible refine i_meth ?_
  | with_reducible refine i_fld ?_
  | with_reducible refine i_sfld ?_
  | with_reducible refine i_din ?_
  | with_reducible refine i_dnin ?_
  | with_reducible refine i_dget ?_
  | with_reducible refine i_dput ?_
  | with_reducible refine i_joined ?_
  | with_reducible refine i_callS ?_
  | with_reducible refine i_xf ?_
  | with_reducible refine i_revL ?_
  | with_reducible refine i_items ?_
  | with_reducible refine i_stepL ?_
  | with_reducible refine i_stepV ?_
  | with_reducible refine i_make ?_
  | with_reducible refine i_fmt ?_
  | with_reducible refine i_jcons ?_
  | with_reducible refine i_jnil ?_
  | with_reducible refine i_iEnum ?_
  | with_reducible refine i_faug ?_
  | with_reducible refine i_dget2 ?_
  | with_reducible refine i_kin ?_
  | with_reducible refine i_kix ?_
  | with_reducible refine i_bm0 ?_
  | with_reducible refine i_meth ?_
  | with_reducible refine iteT ?_
  | with_reducible refine iteF ?_
  | with_reducible refine iteNT ?_
  | with_reducible refine iteNF ?_
  | ((with_reducible refine i_len_s ?_ ?_); (first | assumption | exact szl (by assumption)))
  | ((with_reducible refine i_sl_s ?_ ?_); (first | assumption | exact szl (by assumption)))
  | with_reducible refine i_int_b ?_
  | with_reducible refine i_abs ?_
  | with_reducible refine i_min2 ?_
  | with_reducible refine i_eq rfl ?_
  | with_reducible refine i_ne rfl ?_
  | with_reducible refine iteDR ?_
  | with_reducible refine iteRN ?_
  | with_reducible refine iteI1 ?_
  | with_reducible refine iteI2 ?_
  | with_reducible refine iteI3 ?_
  | with_reducible refine iteI4 ?_
  | with_reducible refine iteSN ?_
  | with_reducible refine iteNDR ?_
  | with_reducible refine iteNRN ?_
  | with_reducible refine iteNSN ?_
  | with_reducible refine iteST (by first | rfl | decide) ?_
  | with_reducible refine iteSF (by decide) ?_
  | with_reducible refine iteNST (by first | rfl | decide) ?_
  | with_reducible refine iteNSF (by decide) ?_)
local macro_rules | `(tactic| walk_at "rd") => `(tactic| repeat walk_at "rd1")

abbrev s_alike_on : Stmt := topS 61
theorem sc_alike_on : FnScope ["project", "other", "names", "asks", "name", "ask"] ["project", "other", "names", "asks"] (defScope s_alike_on) := ⟨rfl, rfl, rfl, by decide +kernel, rfl, by decide +kernel, by decide +kernel⟩
section
variable {P : Program} {w : World} {K : PySem.W.Frag} {mg : Str → Option Value} {base : Heap}
theorem i_neD {H : Hp} {Q : VK} {x y : V} {d e : PyData} (dx : Dt K H d x) (dy : Dt K H e y) (sd : SeqAt.shaped d = true) (se : SeqAt.shaped e = true) (q : Q (.bl (!PyData.eqv d e)) H) : rNeU K x y H Q := .inr ⟨d, e, dx.dp, dy.dp, sd, se, q⟩
theorem lookd_good {prs : Prs} (hp : PrsOk prs) {k z : Str} (hk : k = "has" ∨ k = "names") : good (lookedUp prs k z) = true ∧ tdeep (lookedUp prs k z) ≤ 16 := by
  rcases looked_ok hp (z := z) hk with ⟨_, h⟩ | ⟨_, h | h⟩ | ⟨_, ns, e, h, _⟩
  · have g := treeOk_good (h _ rfl)
    exact ⟨g.g, by have := g.dp; omega⟩
  · rw [Option.some.inj h]; exact ⟨by decide +kernel, by decide +kernel⟩
  · rw [Option.some.inj h]; exact ⟨by decide +kernel, by decide +kernel⟩
  · have g := treeOk_good (Option.some.inj e ▸ h)
    exact ⟨g.g, by have := g.dp; omega⟩
def spAlike (K : PySem.W.Frag) (CP : Addr) : Sp := fun vs H Q _ => ∃ (p1 p2 : Addr) (prs1 prs2 : Prs) (vn vl : V) (N : List Str) (L : List (Str × Str)), vs = [.ref p1, .ref p2, vn, vl] ∧ IsPr K CP H p1 prs1 ∧ IsPr K CP H p2 prs2 ∧ PrsOk prs1 ∧ PrsOk prs2 ∧ Dt K H (.tuple (N.map .str)) vn ∧ Dt K H (.tuple (L.map kzPy)) vl ∧ (∀ q ∈ L, KzOk q) ∧ N.length ≤ 50000 ∧ L.length ≤ 50000 ∧
  ∀ H' b, Same H H' → (b = true ↔ Alk prs1 prs2 N L) → Q (.bl b) H'
theorem ok_alike_on {CP : Addr} (D : Df K mg "alike_on" "alike_on" s_alike_on ["project", "other", "names", "asks"]) (B : NoB mg) (TP : PCls K mg CP) (M_source_of : CalM P w K mg base CX0 CP "source_of" ["self", "name"] 1 (spSourceOf K CP)) (M_looked_up : CalM P w K mg base CX0 CP "looked_up" ["self", "ask"] 2 (spLookedUp K CP)) :
    Cal P w K mg base CX0 "alike_on" ["project", "other", "names", "asks"] 3 (spAlike K CP) := by
  refine D.cal fun f fd F => F.ok sc_alike_on (fun vs H Q E h => ?_) (fun cdv A outer s H vs Q E hr h => ?_)
  · obtain ⟨_, _, _, _, _, _, _, _, rfl, _⟩ := h
    rfl
  · obtain ⟨p1, p2, prs1, prs2, vn, vl, N, L, rfl, hp1, hp2, ok1, ok2, hvn, hvl, hK, lN, lL, q⟩ := h
    refine ⟨_, (pss_cons (ps_for PassesOwn.never rfl (pi_tupU K (pv 2)) (pg_name (i := 4) sc_alike_on.nd rfl (.inl rfl)) (pss_one (ps_if (pt_cmpR (op_neU K hr.units) (pe_mcal M_source_of TP.cl hr (pv 0) (pa_cons (pv 4) pa_nil)) (pe_mcal M_source_of TP.cl hr (pv 1) (pa_cons (pv 4) pa_nil)) (nomark _)) (pss_one (ps_ret pe_bl)) pss_nil)))
      (pss_one (ps_ret (pe_callB (call_allU K rfl) (by rfl) B.m_all (by decide +kernel) (pa_cons (pe_lc (own := [("ask", 5)]) (by rfl) sc_alike_on.nd (pi_tupU K (pv 3)) (blkOk_by (own := [("ask", 5)]) (N := ["project", "other", "names", "asks", "name", "ask"]) (sc := defScope s_alike_on) (by decide +kernel)) (fun _ _ _ _ _ => pg_name (i := 5) sc_alike_on.nd rfl (Or.inl rfl)) (fun _ _ _ _ _ => pts_nil) (fun _ _ _ _ _ => (pe_cmpR (op_eqU K hr.units) (pe_mcal M_looked_up TP.cl hr (pv 0) (pa_cons (pv 5) pa_nil)) (pe_mcal M_looked_up TP.cl hr (pv 1) (pa_cons (pv 5) pa_nil)) (nomark _)))) pa_nil))))), ?_⟩
    obtain ⟨na, xn, rfl, hsn, hqn⟩ := hvn.tup
    obtain ⟨la, xl, rfl, hsl, hql⟩ := hvl.tup
    have hnl := hqn.length
    have hll := hql.length
    rw [List.length_map] at hnl hll
    walk_at "rd"
    refine f_tup hsn (fun i σ H4 => ∃ y1 y2 : Option V, σ = [some (.ref p1), some (.ref p2), some (.ref na), some (.ref la), y1, y2] ∧ H4 = H ∧ ∀ n ∈ N.take i, lookP prs1 n = lookP prs2 n) ?_ ?_ ?_ ?_
    · exact ⟨none, none, rfl, rfl, fun n hn => by rw [List.take_zero] at hn; cases hn⟩
    · rintro i σ H4 _ ⟨y1, y2, rfl, rfl, _⟩
      exact hsn
    · rintro i x σ H4 hx ⟨y1, y2, rfl, rfl, hal⟩
      obtain ⟨d, hdi, hdx⟩ := hqn.get hx
      rw [List.getElem?_map] at hdi
      cases hni : N[i]? with
      | none => rw [hni] at hdi; cases hdi
      | some n =>
      rw [hni] at hdi
      cases (Option.some.inj hdi)
      have e := hdx.str
      subst e
      walk_at "rd"
      obtain ⟨dx1, t1, kv1, a1, b1, c1⟩ := id hp1
      refine i_mk a1 rfl ?_
      walk_at "rd"
      refine ⟨p1, prs1, n, rfl, hp1, ok1, fun w1 hw1 => ?_⟩
      walk_at "rd"
      obtain ⟨dx2, t2, kv2, a2, b2, c2⟩ := id hp2
      refine i_mk a2 rfl ?_
      walk_at "rd"
      refine ⟨p2, prs2, n, rfl, hp2, ok2, fun w2 hw2 => ?_⟩
      refine i_neD (od_dt hw1) (od_dt hw2) (shaped_c2 (src_good ok1 n)) (shaped_c2 (src_good ok2 n)) ?_
      by_cases hs : lookP prs1 n = lookP prs2 n
      · rw [src_eqT ok1 ok2 hs]
        walk_at "rd"
        refine ⟨_, _, rfl, rfl, fun m hm => ?_⟩
        rw [take_snoc hni] at hm
        rcases List.mem_append.mp hm with hm | hm
        · exact hal m hm
        · rw [List.mem_singleton.mp hm]; exact hs
      · rw [src_eqF ok1 ok2 hs]
        walk_at "rd"
        refine q H4 false (.refl _) ⟨fun h => (by cases h), fun h => absurd (h.1 n (List.mem_of_getElem? hni)) hs⟩
    · rintro σ H4 ⟨y1, y2, rfl, rfl, hal⟩
      rw [List.take_of_length_le (by omega)] at hal
      walk_at "rd"
      refine c_tup hsl (szlt (by omega)) (fun D i acc H5 => Same H4 H5 ∧ ∃ bs : List Bool, acc = bs.map V.bl ∧ bs.length = i ∧ (bs.all id = true ↔ ∀ q ∈ L.take i, lookedUp prs1 q.1 q.2 = lookedUp prs2 q.1 q.2)) ?_ ?_ ?_ ?_
      · exact fun D H5 _ s5 _ => ⟨s5, [], rfl, rfl, by simp⟩
      · exact fun D i acc H5 _ h => sqT_tt (.same h.1) hsl
      · rintro D i x acc H5 hD hx hl hi ha ⟨s5, bs, rfl, lb, hb⟩
        obtain ⟨d, hdi, hdx⟩ := hql.get hx
        rw [List.getElem?_map] at hdi
        cases hqi : L[i]? with
        | none => rw [hqi] at hdi; cases hdi
        | some q0 =>
        rw [hqi] at hdi
        cases (Option.some.inj hdi)
        have hk := hK q0 (List.mem_of_getElem? hqi)
        have dq : Dt K H5 (.tuple [.str q0.1, .str q0.2]) x := hdx.mono (.same s5)
        walk_at "rd"
        refine ⟨rfl, ?_⟩
        have hp15 := hp1.same s5
        have hp25 := hp2.same s5
        walk_at "rd"
        obtain ⟨dx1, t1, kv1, a1, b1, c1⟩ := id hp15
        refine i_mk a1 rfl ?_
        walk_at "rd"
        refine ⟨p1, x, prs1, q0.1, q0.2, rfl, hp15, ok1, dq, fun H6 v6 s6 hv6 => ?_⟩
        walk_at "rd"
        obtain ⟨dx2, t2, kv2, a2, b2, c2⟩ := id (hp25.same s6)
        refine i_mk a2 rfl ?_
        walk_at "rd"
        refine ⟨p2, x, prs2, q0.1, q0.2, rfl, hp25.same s6, ok2, dq.mono (.same s6), fun H7 v7 s7 hv7 => ?_⟩
        have g1 := lookd_good ok1 (z := q0.2) hk.1
        have g2 := lookd_good ok2 (z := q0.2) hk.1
        refine i_eqD (hv6.mono (.same s7)) hv7 (shaped_c2 (good_cmp g1.1 g1.2)) (shaped_c2 (good_cmp g2.1 g2.2)) ?_
        have s57 := s6.trans s7
        refine i_ck (s57 _ _ ha) hl hi fun H8 b8 e8 => ⟨Same.but (s5.trans s57) hD b8, bs ++ [PyData.eqv (lookedUp prs1 q0.1 q0.2) (lookedUp prs2 q0.1 q0.2)], by rw [List.map_append]; rfl, by rw [List.length_append, lb]; rfl, ?_⟩
        rw [take_snoc hqi, List.all_append, Bool.and_eq_true, hb]
        constructor
        · rintro ⟨h1, h2⟩ m hm
          rcases List.mem_append.mp hm with hm | hm
          · exact h1 m hm
          · rw [List.mem_singleton.mp hm]
            have h2 : PyData.eqv (lookedUp prs1 q0.1 q0.2) (lookedUp prs2 q0.1 q0.2) = true := by simpa using h2
            exact eqv_eq _ _ g1.1 g2.1 h2
        · intro h
          refine ⟨fun m hm => h m (List.mem_append_left _ hm), ?_⟩
          have := h q0 (List.mem_append_right _ (List.mem_singleton_self _))
          rw [this]
          simp [SeqAt.eqv_refl _ (good_cmp g2.1 g2.2).1]
      · rintro D acc H5 hD hl ha ⟨s5, bs, rfl, lb, hb⟩
        rw [List.take_of_length_le (by omega)] at hb
        walk_at "rd"
        refine i_all (.inl (.inl ha)) ?_
        exact q H5 _ s5 (hb.trans ⟨fun h => ⟨hal, h⟩, fun h => h.2⟩)
end
end Aw

/-! a sign that stands nowhere in a project's sources comes into no ask -/
namespace Aw
open PySem PySem.Spec PyProof.Rows L2
theorem qfS_iff {z : Str} : qfS z = true ↔ ∀ c ∈ z.cps.toList, c ≠ 113 := by
  unfold qfS
  rw [List.all_eq_true]
  exact ⟨fun h c hc => of_decide_eq_true (h c hc), fun h c hc => decide_eq_true (h c hc)⟩
theorem qfS_sub {y z : Str} (h : qfS z = true) (s : ∀ c ∈ y.cps.toList, c ∈ z.cps.toList) : qfS y = true := qfS_iff.mpr fun c hc => qfS_iff.mp h c (s c hc)
theorem qfS_app {a b : Str} (ha : qfS a = true) (hb : qfS b = true) : qfS (a ++ b) = true := by
  rw [qfS_iff] at *
  intro c hc
  rw [app_list] at hc
  rcases List.mem_append.mp hc with h | h
  · exact ha c h
  · exact hb c h
theorem inter_mem {z : List Nat} : ∀ {ps : List (List Nat)} {c : Nat}, c ∈ inter z ps → c ∈ z ∨ ∃ p ∈ ps, c ∈ p
  | [], c, h => by simp [inter] at h
  | [p], c, h => .inr ⟨p, List.mem_singleton_self _, by simpa [inter] using h⟩
  | p :: q :: r, c, h => by
    simp only [inter, List.mem_append] at h
    rcases h with h | h
    · rcases h with h | h
      · exact .inr ⟨p, List.mem_cons_self .., h⟩
      · exact .inl h
    · rcases inter_mem h with h | ⟨x, hx, h⟩
      · exact .inl h
      · exact .inr ⟨x, List.mem_cons_of_mem _ hx, h⟩
theorem inter_of {z : List Nat} : ∀ {ps : List (List Nat)} {p : List Nat}, p ∈ ps → ∀ c ∈ p, c ∈ inter z ps
  | [q], p, h, c, hc => by rw [List.mem_singleton.mp h] at hc; simpa [inter] using hc
  | q :: r :: s, p, h, c, hc => by
    simp only [inter, List.mem_append]
    rcases List.mem_cons.mp h with rfl | h
    · exact .inl (.inl hc)
    · exact .inr (inter_of h c hc)
theorem qfS_join {z : Str} {ys : List Str} (hz : qfS z = true) (hy : ∀ y ∈ ys, qfS y = true) : qfS (Txt.join z ys) = true := by
  rw [qfS_iff]
  intro c hc
  rw [join_list] at hc
  rcases inter_mem hc with h | ⟨p, hp, h⟩
  · exact qfS_iff.mp hz c h
  · obtain ⟨y, hy2, rfl⟩ := List.mem_map.mp hp
    exact qfS_iff.mp (hy y hy2) c h
theorem qfS_split {s z : Str} (h : qfS s = true) : ∀ p ∈ Txt.split s z, qfS p = true := by
  intro p hp
  have h1 := PySem.StrLaws.join_split s z
  rw [← join_eq] at h1
  have h2 := congrArg (fun z : Str => z.cps.toList) h1
  rw [join_list] at h2
  refine qfS_iff.mpr fun c hc => qfS_iff.mp h c ?_
  rw [← show inter z.cps.toList ((Txt.split s z).map (·.cps.toList)) = s.cps.toList from h2]
  exact inter_of (List.mem_map_of_mem (f := fun z : Str => z.cps.toList) hp) c hc
theorem qfS_num : ∀ n : Nat, n < 400 → qfS (Str.ofString (toString (n : Int))) = true := by
  have h : ∀ n : Fin 400, qfS (Str.ofString (toString ((n : Nat) : Int))) = true := by decide +kernel
  exact fun n hn => h ⟨n, hn⟩
theorem qf_txts : ∀ {ds : List PyData} {ys : List Str}, txts ds = some ys → qfs ds = true → ∀ y ∈ ys, qfS y = true
  | [], ys, h, _ => by unfold txts at h; cases h; simp
  | d :: ds, ys, h, hq => by
    unfold txts at h
    unfold qfs at hq
    rw [Bool.and_eq_true] at hq
    cases e1 : txt? d with
    | none => rw [e1] at h; cases h
    | some z =>
      cases e2 : txts ds with
      | none => rw [e1, e2] at h; cases h
      | some r =>
        rw [e1, e2] at h
        cases h
        intro y hy
        rcases List.mem_cons.mp hy with rfl | hy
        · cases d <;> cases e1
          exact hq.1
        · exact qf_txts e2 hq.2 y hy
/-! ### the lines -/
def lnQ : Ln → Prop
  | .text _ t => qfS t = true
  | _ => True
theorem lns_q {d : PyData} (h : isRule d = true) (hq : qf d = true) : ∀ l ∈ lnsOf d, lnQ l := by
  intro l hl
  cases l with
  | text b t =>
    show qfS t = true
    obtain ⟨h1, _⟩ := lnsOf_ok h
    have hm := List.mem_map_of_mem (f := Ln.row) hl
    rw [h1] at hm
    cases d with
    | tuple ds =>
      obtain ⟨e, he, hr⟩ := List.mem_filterMap.mp hm
      have hqe := qfs_iff.mp hq e he
      cases e with
      | str z =>
        have hqz : qfS z = true := hqe
        have hr : lineRow z ds.length = some (Ln.row (.text b t)) := hr
        unfold lineRow at hr
        split at hr
        · unfold textRow at hr
          split at hr
          · have hr := Option.some.inj hr
            have e2 : t = S (z.cps.toList.drop 7) := by
              have := congrArg Prod.snd hr
              injection this with _ this
              injection this with this _
              injection this with this
              exact this.symm
            rw [e2]
            exact qfS_sub hqz fun c hc => List.mem_of_mem_drop (by rw [S_list] at hc; exact hc)
          · cases hr
        · split at hr
          · cases hr
          · rename_i w ps e
            cases hf : forms.lookup w with
            | none => rw [hf] at hr; cases hr
            | some fm =>
              rw [hf] at hr
              have hr : (if ps.length = fm.length then (partsD fm.cps.toList ps ds.length).map fun r => (w, r) else none) = some (Ln.row (.text b t)) := hr
              have hw : w = Str.ofString "text" := by
                split at hr
                · cases hp : partsD fm.cps.toList ps ds.length with
                  | none => rw [hp] at hr; cases hr
                  | some es =>
                    rw [hp] at hr
                    exact congrArg Prod.fst (Option.some.inj hr)
                · cases hr
              have hmm := lookup_mem hf
              rw [hw] at hmm
              have : ∀ q ∈ forms, q.1 ≠ Str.ofString "text" := by decide +kernel
              exact absurd rfl (this _ hmm)
      | _ => cases hr
    | _ => cases hm
  | _ => trivial
/-! ### the machine -/
structure MacQ (m : Mac) : Prop where
  box : ∀ d ∈ m.boxes, qf d = true
  ask : ∀ a ∈ m.asks, qfS a.2.1 = true
  st : match m.st with
    | .asks _ z => qfS z = true
    | .said d => qf d = true
    | _ => True
structure MacR (m : Mac) : Prop where
  ln : ∀ l ∈ lnsOf m.rule, lnQ l
  own : qfS m.own = true
theorem bxAt_q {bs : List PyData} {b : Nat} (h : ∀ d ∈ bs, qf d = true) : qf (bxAt bs b) = true := by
  unfold bxAt
  rw [List.getD_eq_getElem?_getD]
  cases e : bs[b]? with
  | none => exact (by decide +kernel : qf (.str "") = true)
  | some d => exact h d (List.mem_of_getElem? e)
theorem row_some {d : PyData} {ds : List PyData} (h : row? d = some ds) : d = .tuple ds := by cases d <;> cases h; rfl
theorem txt_some {d : PyData} {z : Str} (h : txt? d = some z) : d = .str z := by cases d <;> cases h; rfl
theorem made_q {m : Mac} (hb : ∀ d ∈ m.boxes, qf d = true) (hg : ∀ d ∈ m.boxes, treeOk d = true) (hR : MacR m) {l : Ln} (hl : lnQ l) : ∀ d, madeL m.boxes m.own l = some d → qf d = true := by
  intro d h
  have B : ∀ b, qf (bxAt m.boxes b) = true := fun b => bxAt_q hb
  have G : ∀ b, treeOk (bxAt m.boxes b) = true := fun b => bxAt_ok hg
  cases l with
  | text b t => cases h; exact hl
  | self b => cases h; exact hR.own
  | emp b => cases h; rfl
  | copy b c => cases h; exact B c
  | put b c =>
    have h : joinedD "put" (bxAt m.boxes b) (bxAt m.boxes c) = some d := h
    unfold joinedD at h
    cases e : row? (bxAt m.boxes b) with
    | some ds =>
      rw [e] at h
      dsimp only at h
      rw [if_pos rfl] at h
      cases h
      have hb2 := B b
      rw [row_some e] at hb2
      refine qfs_iff.mpr fun x hx => ?_
      rcases List.mem_append.mp hx with hx | hx
      · exact qfs_iff.mp hb2 x hx
      · rw [List.mem_singleton.mp hx]; exact B c
    | none =>
      rw [e] at h
      dsimp only at h
      split at h
      · rw [if_neg (by decide)] at h; cases h
      · cases h
  | join b c =>
    have h : joinedD "join" (bxAt m.boxes b) (bxAt m.boxes c) = some d := h
    unfold joinedD at h
    cases e : row? (bxAt m.boxes b) with
    | some ds => rw [e] at h; dsimp only at h; rw [if_neg (by decide)] at h; cases h
    | none =>
      rw [e] at h
      dsimp only at h
      split at h
      · rename_i x y hx hy
        rw [if_pos rfl] at h
        cases h
        have h1 := B b
        have h2 := B c
        rw [txt_some hx] at h1
        rw [txt_some hy] at h2
        exact qfS_app h1 h2
      · cases h
  | cut b c e =>
    have h : partedD (bxAt m.boxes c) (bxAt m.boxes e) = some d := h
    unfold partedD at h
    split at h
    · rename_i x y hx hy
      split at h
      · cases h
      · cases h
        have h1 := B c
        rw [txt_some hx] at h1
        refine qfs_iff.mpr fun p hp => ?_
        obtain ⟨q, hq, rfl⟩ := List.mem_map.mp hp
        exact qfS_split h1 q hq
    · cases h
  | glue b c e =>
    have h : gluedD (bxAt m.boxes c) (bxAt m.boxes e) = some d := h
    unfold gluedD at h
    split at h
    · rename_i ds y hx hy
      cases et : txts ds with
      | none => rw [et] at h; cases h
      | some ys =>
        rw [et] at h
        cases h
        have h1 := B c
        have h2 := B e
        rw [row_some hx] at h1
        rw [txt_some hy] at h2
        exact qfS_join h2 (qf_txts et h1)
    · cases h
  | size b c =>
    have h : takenD "size" (bxAt m.boxes c) = some d := h
    unfold takenD at h
    rw [if_pos rfl] at h
    cases h
    exact qfS_num _ (Nat.lt_of_le_of_lt (lenD_good (treeOk_good (G c)).g) (by decide))
  | first b c =>
    have h : takenD "first" (bxAt m.boxes c) = some d := h
    have h1 := B c
    unfold takenD at h
    rw [if_neg (by decide)] at h
    generalize bxAt m.boxes c = x at h h1
    cases x with
    | str z =>
      dsimp only at h
      split at h
      · cases h
      · rename_i c0 r e
        rw [if_pos rfl] at h
        cases h
        exact qfS_sub (z := z) h1 fun x hx => by
          rw [S_list] at hx
          rw [e, List.mem_singleton.mp hx]
          exact List.mem_cons_self ..
    | tuple ds =>
      dsimp only at h
      cases ds with
      | nil => cases h
      | cons d0 r =>
        dsimp only at h
        rw [if_pos rfl] at h
        cases h
        exact qfs_iff.mp h1 d (List.mem_cons_self ..)
    | _ => cases h
  | rest b c =>
    have h : takenD "rest" (bxAt m.boxes c) = some d := h
    have h1 := B c
    unfold takenD at h
    rw [if_neg (by decide)] at h
    generalize bxAt m.boxes c = x at h h1
    cases x with
    | str z =>
      dsimp only at h
      split at h
      · cases h
      · rename_i c0 r e
        rw [if_neg (by decide)] at h
        cases h
        exact qfS_sub (z := z) h1 fun x hx => by
          rw [S_list] at hx
          rw [e]
          exact List.mem_cons_of_mem _ hx
    | tuple ds =>
      dsimp only at h
      cases ds with
      | nil => cases h
      | cons d0 r =>
        dsimp only at h
        rw [if_neg (by decide)] at h
        cases h
        exact qfs_iff.mpr fun x hx => qfs_iff.mp h1 x (List.mem_cons_of_mem _ hx)
    | _ => cases h
  | _ => cases h
theorem fill_q {m : Mac} (h : MacQ m) (hs : m.st = .go) (b : Nat) {o : Option PyData} (ho : ∀ d, o = some d → qf d = true) : MacQ (m.fill b o) := by
  unfold Mac.fill
  cases o with
  | none => exact ⟨h.box, h.ask, trivial⟩
  | some d =>
    dsimp only
    split
    · refine ⟨fun e he => ?_, h.ask, ?_⟩
      · rcases List.mem_or_eq_of_mem_set he with h1 | h1
        · exact h.box e h1
        · rw [h1]; exact ho d rfl
      · show (match m.st with | .asks _ z => _ | .said d => _ | _ => True)
        rw [hs]
        trivial
    · exact ⟨h.box, h.ask, trivial⟩
theorem wait_q {m : Mac} (h : MacQ m) (k : Str) {d : PyData} (hd : qf d = true) : MacQ (m.wait k d) := by
  unfold Mac.wait
  cases e : txt? d with
  | none => exact ⟨h.box, h.ask, trivial⟩
  | some z =>
    dsimp only
    split
    · refine ⟨h.box, h.ask, ?_⟩
      rw [txt_some e] at hd
      exact hd
    · exact ⟨h.box, h.ask, trivial⟩
theorem step_q {m : Mac} (h : MacQ m) (hg : ∀ d ∈ m.boxes, treeOk d = true) (hR : MacR m) (hs : m.st = .go) {l : Ln} (hl : lnQ l) : MacQ (m.step l) := by
  have B : ∀ b, qf (bxAt m.boxes b) = true := fun b => bxAt_q h.box
  have J : ∀ c n, MacQ (m.jump c n) := fun c n => ⟨h.box, h.ask, by show (match m.st with | .asks _ z => _ | .said d => _ | _ => True); rw [hs]; trivial⟩
  cases l with
  | ask b c => exact wait_q h _ (B c)
  | has b c => exact wait_q h _ (B c)
  | names b c => exact wait_q h _ (B c)
  | say b => exact ⟨h.box, h.ask, B b⟩
  | fault => exact ⟨h.box, h.ask, trivial⟩
  | go n => exact J _ _
  | like b c n => exact J _ _
  | rowed b n => exact J _ _
  | none b n => exact J _ _
  | text b t => exact fill_q h hs b (made_q h.box hg hR hl)
  | self b => exact fill_q h hs b (made_q h.box hg hR hl)
  | emp b => exact fill_q h hs b (made_q h.box hg hR hl)
  | copy b c => exact fill_q h hs b (made_q h.box hg hR hl)
  | put b c => exact fill_q h hs b (made_q h.box hg hR hl)
  | join b c => exact fill_q h hs b (made_q h.box hg hR hl)
  | first b c => exact fill_q h hs b (made_q h.box hg hR hl)
  | rest b c => exact fill_q h hs b (made_q h.box hg hR hl)
  | size b c => exact fill_q h hs b (made_q h.box hg hR hl)
  | cut b c d => exact fill_q h hs b (made_q h.box hg hR hl)
  | glue b c d => exact fill_q h hs b (made_q h.box hg hR hl)
theorem goOn_q : ∀ (n : Nat) {m : Mac}, MacOk m → MacQ m → MacR m → MacQ (m.goOn n)
  | 0, _, _, h, _ => h
  | n + 1, m, hk, h, hR => by
    unfold Mac.goOn
    split
    · rename_i hs
      split
      · exact ⟨h.box, h.ask, trivial⟩
      · rename_i l hl
        split
        · exact ⟨h.box, h.ask, trivial⟩
        · rename_i hd
          obtain ⟨r1, r2, _⟩ := step_rule m l
          exact goOn_q n (step_ok hk hs hd hl) (step_q h hk.box hR hs (hR.ln l (List.mem_of_getElem? hl))) ⟨by rw [r1]; exact hR.ln, by rw [r2]; exact hR.own⟩
    · exact h
theorem begin_q {rule : PyData} {own : Str} (h : isRule rule = true) (ho : nameOk own = true) (hq : qf rule = true) (hqo : qfS own = true) : MacQ (Mac.begin rule own) ∧ MacR (Mac.begin rule own) := by
  have hR : MacR (mac0 rule own) := ⟨lns_q h hq, hqo⟩
  obtain ⟨r1, r2, _⟩ := goOn_rule 302 (mac0 rule own)
  refine ⟨goOn_q 302 (mac0_ok h ho) ⟨fun d hd => by rw [List.eq_of_mem_replicate hd]; decide +kernel, fun a ha => (List.not_mem_nil ha).elim, trivial⟩ hR, ⟨?_, ?_⟩⟩
  · show ∀ l ∈ lnsOf ((mac0 rule own).goOn 302).rule, lnQ l
    rw [r1]; exact hR.ln
  · show qfS ((mac0 rule own).goOn 302).own = true
    rw [r2]; exact hR.own
theorem take_q {m : Mac} (h : MacQ m) {k z : Str} (hs : m.st = .asks k z) {o : Option PyData} (ho : ∀ d, o = some d → qf d = true) : MacQ (m.take o) := by
  have hz : qfS z = true := by
    have := h.st
    rw [hs] at this
    exact this
  have hask : ∀ a ∈ m.asks ++ [(k, z, o)], qfS a.2.1 = true := fun a ha => by
    rcases List.mem_append.mp ha with ha | ha
    · exact h.ask a ha
    · rw [List.mem_singleton.mp ha]; exact hz
  unfold Mac.take
  rw [hs]
  cases o with
  | none => exact ⟨h.box, hask, trivial⟩
  | some d =>
    dsimp only
    split
    · exact fill_q (m := { m with asks := m.asks ++ [(k, z, some d)], st := .go }) ⟨h.box, hask, trivial⟩ rfl _ ho
    · exact h
theorem answer_q {m : Mac} (hk : MacOk m) (h : MacQ m) (hR : MacR m) {k z : Str} (hs : m.st = .asks k z) {o : Option PyData} (ha : ansOk k o) (ho : ∀ d, o = some d → qf d = true) : MacQ (m.answer o) ∧ MacR (m.answer o) := by
  obtain ⟨h1, h2, h3, h4, h5⟩ := take_ok hk hs ha
  have hR2 : MacR (m.take o) := ⟨by rw [h4]; exact hR.ln, by rw [h5]; exact hR.own⟩
  obtain ⟨_, _, _, a4, a5⟩ := answer_ok hk hs ha
  exact ⟨goOn_q 302 h1 (take_q h hs ho) hR2, ⟨by rw [a4]; exact hR.ln, by rw [a5]; exact hR.own⟩⟩
/-! ### runs -/
/-- no source has the sign -/
def OrcQ (o : Orc) : Prop := ∀ y v, o y = some v → ∀ d, v = some d → qf d = true
def EndQ : End → Prop
  | .said d => qf d = true
  | _ => True
theorem looked_q {prs : Prs} (hq : QPrs prs) (k z : Str) : qf (lookedUp prs k z) = true := by
  unfold lookedUp
  split
  · split <;> decide +kernel
  · refine qfs_iff.mpr fun d hd => ?_
    obtain ⟨n, hn, rfl⟩ := List.mem_map.mp hd
    have h1 := (srtN_perm (names prs)).mem_iff.mp (List.mem_filter.mp (nrowL_mem hn)).1
    obtain ⟨p, hp, rfl⟩ := List.mem_map.mp h1
    exact (hq p hp).1
theorem runO_q {prs : Prs} {o : Orc} (hp : PrsOk prs) (hq : QPrs prs) (hoq : OrcQ o) (ho : ∀ y v, nameOk y = true → o y = some v → ∀ d, v = some d → treeOk d = true) : ∀ (n : Nat) {m : Mac}, MacOk m → MacQ m → MacR m → (∀ a ∈ (runO prs o n m).1, qfS a.2.1 = true) ∧ EndQ (runO prs o n m).2
  | 0, m, _, h, _ => ⟨h.ask, trivial⟩
  | n + 1, m, hm, h, hR => by
    unfold runO
    cases e : m.st with
    | asks k z =>
      have hst := hm.st
      rw [e] at hst
      obtain ⟨_, hak, _⟩ := hst
      dsimp only
      by_cases hk : k = "thing"
      · rw [if_pos hk]
        have hz : nameOk z = true := by
          rcases hak with ⟨_, h⟩ | ⟨h, _⟩ | ⟨h, _⟩
          · exact h
          · rw [hk] at h; exact absurd h (by decide)
          · rw [hk] at h; exact absurd h (by decide)
        cases eo : o z with
        | none => exact ⟨h.ask, trivial⟩
        | some v =>
          have hv : ansOk k v := .inl ⟨hk, ho z v hz eo⟩
          obtain ⟨a1, a2⟩ := answer_q hm h hR e hv (hoq z v eo)
          exact runO_q hp hq hoq ho n (answer_ok hm e hv).1 a1 a2
      · rw [if_neg hk]
        have hk2 : k = "has" ∨ k = "names" := by
          rcases hak with ⟨h, _⟩ | ⟨h, _⟩ | ⟨h, _⟩
          · exact absurd h hk
          · exact .inl h
          · exact .inr h
        have hv := looked_ok hp hk2 (z := z)
        obtain ⟨a1, a2⟩ := answer_q hm h hR e hv (fun d hd => by rw [← Option.some.inj hd]; exact looked_q hq k z)
        exact runO_q hp hq hoq ho n (answer_ok hm e hv).1 a1 a2
    | go => exact ⟨h.ask, by unfold Mac.fin; rw [e]; trivial⟩
    | said d =>
      refine ⟨h.ask, ?_⟩
      have := h.st
      rw [e] at this
      unfold Mac.fin
      rw [e]
      exact this
    | fault w => exact ⟨h.ask, by unfold Mac.fin; rw [e]; trivial⟩
theorem byO_q {prs : Prs} {o : Orc} (hp : PrsOk prs) (hq : QPrs prs) (hoq : OrcQ o) (ho : ∀ y v, nameOk y = true → o y = some v → ∀ d, v = some d → treeOk d = true) {name : Str} {rule : PyData} {as : List Asked} (hn : nameOk name = true) (hqn : qfS name = true) (hqr : qf rule = true) (has : ∀ a ∈ as, qfS a.2.1 = true) :
    (∀ a ∈ (byO prs o name rule as).1, qfS a.2.1 = true) ∧ EndQ (byO prs o name rule as).2 := by
  unfold byO
  by_cases h : isRule rule = true
  · rw [if_pos h]
    obtain ⟨b1, b2⟩ := begin_q h hn hqr hqn
    obtain ⟨c1, c2⟩ := runO_q hp hq hoq ho 302 (begin_ok h hn) b1 b2
    refine ⟨fun a ha => ?_, c2⟩
    rcases List.mem_append.mp ha with ha | ha
    · exact has a ha
    · exact c1 a ha
  · rw [if_neg h]
    exact ⟨has, trivial⟩
theorem goneO_q {prs : Prs} {o : Orc} (hp : PrsOk prs) (hq : QPrs prs) (hoq : OrcQ o) (ho : ∀ y v, nameOk y = true → o y = some v → ∀ d, v = some d → treeOk d = true) {name : Str} {s : Src} (hl : lookP prs name = some s) (hk : s.k ≠ "leaf") : (∀ a ∈ (goneO prs o name s).1, qfS a.2.1 = true) ∧ EndQ (goneO prs o name s).2 := by
  have hm := lookP_mem hl
  have hn := hp.nm _ hm
  obtain ⟨q1, q2⟩ := hq _ hm
  have q1 : qfS name = true := q1
  have q2 : qf s.x = true := q2
  unfold goneO
  by_cases hr : s.k = "rule"
  · rw [if_pos hr]
    exact byO_q hp hq hoq ho hn q1 q2 fun a ha => (List.not_mem_nil ha).elim
  · rw [if_neg hr]
    obtain ⟨ex, _⟩ := srcTxt_ok (hp.sr _ hm) hk hr
    have ex : s.x = .str (srcTxt s) := ex
    rw [ex] at q2
    have q2 : qfS (srcTxt s) = true := q2
    cases eo : o (srcTxt s) with
    | none => exact ⟨fun a ha => (List.not_mem_nil ha).elim, trivial⟩
    | some v =>
      cases v with
      | none => exact ⟨fun a ha => by rw [List.mem_singleton.mp ha]; exact q2, trivial⟩
      | some d => exact byO_q hp hq hoq ho hn q1 (hoq _ _ eo d rfl) fun a ha => by rw [List.mem_singleton.mp ha]; exact q2
theorem gotO_q {prs : Prs} {o : Orc} (hp : PrsOk prs) (hq : QPrs prs) (hoq : OrcQ o) (ho : ∀ y v, nameOk y = true → o y = some v → ∀ d, v = some d → treeOk d = true) (z : Str) : ∀ v, (gotO prs o z).asked = some v → ∀ d, v = some d → qf d = true := by
  intro v hv d hd
  subst hd
  unfold gotO at hv
  cases hl : lookP prs z with
  | none => rw [hl] at hv; cases hv
  | some s =>
    rw [hl] at hv
    dsimp only at hv
    by_cases hk : s.k = "leaf"
    · rw [if_pos hk] at hv
      cases hv
      exact (hq _ (lookP_mem hl)).2
    · rw [if_neg hk] at hv
      have := (goneO_q hp hq hoq ho hl hk).2
      cases e : (goneO prs o z s).2 with
      | said d2 => rw [e] at hv this; cases hv; exact this
      | fault w => rw [e] at hv; cases hv
      | stuck w => rw [e] at hv; cases hv
end Aw

namespace Aw
open PySem PySem.Spec PyProof.Rows L2
section
variable {prs : Prs}
theorem orc_q (hp : PrsOk prs) (l : prs.length ≤ 50) (hq : QPrs prs) : ∀ n, OrcQ (orc prs n)
  | 0 => fun y v h => by cases h
  | n + 1 => fun y v h d hd => gotO_q hp hq (orc_q hp l hq n) (fun y v hy h => orcT_ok hp l y v hy (orc_leT prs n y v h)) y v h d hd
theorem orcT_q (hp : PrsOk prs) (l : prs.length ≤ 50) (hq : QPrs prs) : OrcQ (orcT prs) := fun y v h d hd => by
  obtain ⟨n, e⟩ := orcT_ex h
  exact orc_q hp l hq n y v e d hd
theorem paper_q (hp : PrsOk prs) (l : prs.length ≤ 50) (hq : QPrs prs) (z : Str) : ∀ p ∈ paperD prs z, qfS p.1 = true ∧ ∀ a ∈ p.2.1, qfS a.2.1 = true := by
  intro p h
  rw [top_paper hp l z] at h
  obtain ⟨s, hl, hk, e⟩ := (top_det l z).2 p h
  refine ⟨(hq _ (lookP_mem hl)).1, fun a ha => ?_⟩
  rw [e] at ha
  exact (goneO_q hp hq (orcT_q hp l hq) (orcT_ok hp l) hl hk).1 a ha
theorem foot_q (hp : PrsOk prs) (l : prs.length ≤ 50) (hq : QPrs prs) {z : Str} (hz : qfS z = true) : (∀ n ∈ (footOf (paperD prs z) z).1, qfS n = true) ∧ ∀ q ∈ (footOf (paperD prs z) z).2, qfS q.2 = true := by
  have hP := paper_q hp l hq z
  refine ⟨fun n hn => ?_, fun q hq2 => ?_⟩
  · unfold footOf at hn
    rcases (foot_mem _ _ _).mp hn with h | h
    · rw [List.mem_singleton.mp h]; exact hz
    · unfold allN at h
      obtain ⟨p, hp2, h⟩ := List.mem_flatMap.mp h
      obtain ⟨h1, h2⟩ := hP p hp2
      rcases List.mem_cons.mp h with rfl | h
      · exact h1
      · obtain ⟨a, ha, rfl⟩ := List.mem_map.mp h
        exact h2 a (List.mem_filter.mp ha).1
  · unfold footOf at hq2
    rw [foot_look] at hq2
    rcases (looks_mem _ _).mp hq2 with h | ⟨a, ha, rfl⟩
    · exact (List.not_mem_nil h).elim
    · unfold allL at ha
      obtain ⟨p, hp2, ha⟩ := List.mem_flatMap.mp ha
      exact (hP p hp2).2 a (List.mem_filter.mp ha).1
end
/-! ### another name beside -/
def qqP : Str × Src := (Str.ofString "qq9", ⟨"leaf", .str "x"⟩)
theorem qq_ne {z : Str} (h : qfS z = true) : z ≠ Str.ofString "qq9" := fun e => by
  rw [e] at h
  exact absurd h (by decide +kernel)
theorem lookP_beside {prs : Prs} {z : Str} (h : z ≠ Str.ofString "qq9") : lookP (prs ++ [qqP]) z = lookP prs z := by
  unfold lookP
  rw [List.find?_append]
  have : ([qqP] : Prs).find? (fun p => p.1 == z) = none := by
    rw [List.find?_eq_none]
    intro p hp
    rw [List.mem_singleton.mp hp]
    show ¬ (Str.ofString "qq9" == z) = true
    intro e
    exact h (beq_iff_eq.mp e).symm
  rw [this]
  cases prs.find? (fun p => p.1 == z) <;> rfl
theorem names_beside (prs : Prs) : names (prs ++ [qqP]) = names prs ++ [Str.ofString "qq9"] := by unfold names; rw [List.map_append]; rfl
theorem pw_filter {l : List Str} (h : l.Pairwise fun x y => leS x y = true) (f : Str → Bool) : (l.filter f).Pairwise fun x y => leS x y = true := h.sublist List.filter_sublist
theorem namesBy_beside {prs : Prs} {z : Str} (h : Txt.startswith (Str.ofString "qq9") z = false) : namesBy (prs ++ [qqP]) z = namesBy prs z := by
  unfold namesBy
  rw [names_beside]
  have p1 : (srtN (names prs ++ [Str.ofString "qq9"])).Perm (names prs ++ [Str.ofString "qq9"]) := srtN_perm _
  have p2 := p1.filter (fun n => Txt.startswith n z)
  rw [List.filter_append, List.filter_cons_of_neg (by rw [h]; decide), List.filter_nil, List.append_nil] at p2
  have p3 := (srtN_perm (names prs)).filter (fun n => Txt.startswith n z)
  have e1 := srtN_unique p2 (pw_filter (srtN_pw _) _)
  have e2 := srtN_unique p3 (pw_filter (srtN_pw _) _)
  rw [e1, e2]
theorem alk_beside {prs : Prs} {N : List Str} {L : List (Str × Str)} (hN : ∀ n ∈ N, qfS n = true) (hL : ∀ q ∈ L, qfS q.2 = true) (hK : ∀ q ∈ L, KzOk q) (hs : ∀ q ∈ L, q.1 = "names" → Txt.startswith (Str.ofString "qq9") q.2 = false) : Alk prs (prs ++ [qqP]) N L := by
  refine ⟨fun n hn => (lookP_beside (qq_ne (hN n hn))).symm, fun q hq => ?_⟩
  unfold lookedUp
  by_cases hk : q.1 = "has"
  · rw [if_pos hk, if_pos hk, names_beside]
    have : q.2 ∈ names prs ++ [Str.ofString "qq9"] ↔ q.2 ∈ names prs := by
      rw [List.mem_append, List.mem_singleton]
      exact ⟨fun h => h.elim id fun e => absurd e (qq_ne (hL q hq)), .inl⟩
    by_cases hz : q.2 ∈ names prs
    · rw [if_pos hz, if_pos (this.mpr hz)]
    · rw [if_neg hz, if_neg fun h => hz (this.mp h)]
  · rw [if_neg hk, if_neg hk, namesBy_beside (hs q hq ((hK q hq).1.resolve_left hk))]
end Aw

namespace Aw
open PySem PySem.Spec PyProof.Rows L2

local macro_rules | `(tactic| walk_at "rd1") => `(tactic| first
  | ((with_reducible apply i_var); exact rfl)
  | with_reducible refine i_c ?_
  | with_reducible refine i_op ?_
  | with_reducible refine i_un ?_
  | with_reducible refine i_test ?_
  | with_reducible refine i_tB ?_
  | with_reducible refine i_bl ?_
  | with_reducible refine i_and ?_
  | with_reducible refine i_or ?_
  | with_reducible refine i_not ?_
  | with_reducible refine i_andV ?_
  | with_reducible refine i_orV ?_
  | with_reducible refine i_notV ?_
  | with_reducible refine i_if ?_
  | with_reducible refine i_chain ?_
  | with_reducible refine i_nil ?_
  | with_reducible refine i_cons ?_
  | with_reducible refine i_tup ?_
  | with_reducible refine i_lst ?_
  | with_reducible refine i_cb ?_
  | with_reducible refine i_call ?_
  | with_reducible refine i_bm ?_
  | with_reducible refine i_m1 ?_
  | with_reducible refine i_m0 ?_
  | with_reducible refine i_exstr ?_
  | with_reducible refine i_sl ?_
  | with_reducible refine i_nopart ?_
  | with_reducible refine i_part ?_
  | with_reducible refine i_int ?_
  | with_reducible refine i_seq ?_
  | with_reducible refine i_next ?_
  | with_reducible refine i_asg ?_
  | with_reducible refine i_gname ?_
  | with_reducible refine i_ret ?_
  | with_reducible refine i_retN ?_
  | with_reducible refine i_drop ?_
  | with_reducible refine i_ifS ?_
  | with_reducible refine i_break ?_
  | with_reducible refine i_cont ?_
  | ((with_reducible apply i_aug); exact rfl)
  | with_reducible refine i_add_i ?_
  | with_reducible refine i_sub ?_
  | with_reducible refine i_neg ?_
  | with_reducible refine i_ipadd_i ?_
  | with_reducible refine i_ip ?_
  | with_reducible refine i_lt ?_
  | with_reducible refine i_le ?_
  | with_reducible refine i_gt ?_
  | with_reducible refine i_ge ?_
  | with_reducible refine i_lt_s ?_
  | with_reducible refine i_le_s ?_
  | with_reducible refine i_gt_s ?_
  | with_reducible refine i_ge_s ?_
  | with_reducible refine i_isN ?_
  | with_reducible refine i_notN ?_
  | with_reducible refine i_in_c ?_
  | with_reducible refine i_nin_c ?_
  | with_reducible refine i_gsub ?_
  | with_reducible refine i_gcons ?_
  | with_reducible refine i_gnil ?_
  | with_reducible refine i_iList ?_
  | with_reducible refine i_iTup ?_
  | with_reducible refine i_iStr ?_
  | with_reducible refine i_iRng1 ?_
  | with_reducible refine i_lc ?_
  | with_reducible refine i_for ?_
  | with_reducible refine i_yes ?_
  | with_reducible refine i_repl ?_
  | with_reducible refine i_meth ?_
  | with_reducible refine i_fld ?_
  | with_reducible refine i_sfld ?_
  | with_reducible refine i_din ?_
  | with_reducible refine i_dnin ?_
  | with_reducible refine i_dget ?_
  | with_reducible refine i_dput ?_
  | with_reducible refine i_joined ?_
  | with_reducible refine i_callS ?_
  | with_reducible refine i_xf ?_
  | with_reducible refine i_revL ?_
  | with_reducible refine i_items ?_
  | with_reducible refine i_stepL ?_
  | with_reducible refine i_stepV ?_
  | with_reducible refine i_make ?_
  | with_reducible refine i_fmt ?_
  | with_reducible refine i_jcons ?_
  | with_reducible refine i_jnil ?_
  | with_reducible refine i_iEnum ?_
  | with_reducible refine i_faug ?_
  | with_reducible refine i_dget2 ?_
  | with_reducible refine i_kin ?_
  | with_reducible refine i_kix ?_
  | with_reducible refine i_bm0 ?_
  | with_reducible refine i_meth ?_
  | with_reducible refine iteT ?_
  | with_reducible refine iteF ?_
  | with_reducible refine iteNT ?_
  | with_reducible refine iteNF ?_
  | ((with_reducible refine i_len_s ?_ ?_); (first | assumption | exact szl (by assumption)))
  | ((with_reducible refine i_sl_s ?_ ?_); (first | assumption | exact szl (by assumption)))
  | with_reducible refine i_int_b ?_
  | with_reducible refine i_abs ?_
  | with_reducible refine i_min2 ?_
  | with_reducible refine i_eq rfl ?_
  | with_reducible refine i_ne rfl ?_
  | with_reducible refine iteDR ?_
  | with_reducible refine iteRN ?_
  | with_reducible refine iteI1 ?_
  | with_reducible refine iteI2 ?_
  | with_reducible refine iteI3 ?_
  | with_reducible refine iteI4 ?_
  | with_reducible refine iteSN ?_
  | with_reducible refine iteNDR ?_
  | with_reducible refine iteNRN ?_
  | with_reducible refine iteNSN ?_
  | with_reducible refine iteST (by first | rfl | decide) ?_
  | with_reducible refine iteSF (by decide) ?_
  | with_reducible refine iteNST (by first | rfl | decide) ?_
  | with_reducible refine iteNSF (by decide) ?_)
local macro_rules | `(tactic| walk_at "rd") => `(tactic| repeat walk_at "rd1")

abbrev s__law_is_alike : Stmt := topS 74
theorem sc__law_is_alike : FnScope ["project", "other", "foot", "name", "ask"] ["project", "other", "foot"] (defScope s__law_is_alike) := ⟨rfl, rfl, rfl, by decide +kernel, rfl, by decide +kernel, by decide +kernel⟩
section
variable {P : Program} {w : World} {K : PySem.W.Frag} {mg : Str → Option Value} {base : Heap}
def spIsAlike (K : PySem.W.Frag) (CP : Addr) : Sp := fun vs H Q _ => ∃ (p1 p2 : Addr) (prs1 prs2 : Prs) (vf : V) (N : List Str) (L : List (Str × Str)), vs = [.ref p1, .ref p2, vf] ∧ IsPr K CP H p1 prs1 ∧ IsPr K CP H p2 prs2 ∧ PrsOk prs1 ∧ PrsOk prs2 ∧ Dt K H (footPy N L) vf ∧ (∀ q ∈ L, KzOk q) ∧ N.length ≤ 50000 ∧ L.length ≤ 50000 ∧
  ∀ H' b, Same H H' → (b = true ↔ Alk prs1 prs2 N L) → Q (.bl b) H'
theorem ok_is_alike {CP : Addr} (D : Df K mg "_law_is_alike" "_law_is_alike" s__law_is_alike ["project", "other", "foot"]) (B : NoB mg) (TP : PCls K mg CP) (M_source_of : CalM P w K mg base CX0 CP "source_of" ["self", "name"] 1 (spSourceOf K CP)) (M_looked_up : CalM P w K mg base CX0 CP "looked_up" ["self", "ask"] 2 (spLookedUp K CP)) :
    Cal P w K mg base CX0 "_law_is_alike" ["project", "other", "foot"] 3 (spIsAlike K CP) := by
  refine D.cal fun f fd F => F.ok sc__law_is_alike (fun vs H Q E h => ?_) (fun cdv A outer s H vs Q E hr h => ?_)
  · obtain ⟨_, _, _, _, _, _, _, rfl, _⟩ := h
    rfl
  · obtain ⟨p1, p2, prs1, prs2, vf, N, L, rfl, hp1, hp2, ok1, ok2, hvf, hK, lN, lL, q⟩ := h
    refine ⟨_, (pss_cons (ps_for PassesOwn.never rfl (pi_tupU K (pe_ix (ix_U K) (pv 2) pe_int (fun _ _ => rfl))) (pg_name (i := 3) sc__law_is_alike.nd rfl (.inl rfl)) (pss_one (ps_if (pt_cmpR (op_neU K hr.units) (pe_mcal M_source_of TP.cl hr (pv 0) (pa_cons (pv 3) pa_nil)) (pe_mcal M_source_of TP.cl hr (pv 1) (pa_cons (pv 3) pa_nil)) (nomark _)) (pss_one (ps_ret pe_bl)) pss_nil)))
      (pss_one (ps_ret (pe_callB (call_allU K rfl) (by rfl) B.m_all (by decide +kernel) (pa_cons (pe_lc (own := [("ask", 4)]) (by rfl) sc__law_is_alike.nd (pi_tupU K (pe_ix (ix_U K) (pv 2) pe_int (fun _ _ => rfl))) (blkOk_by (own := [("ask", 4)]) (N := ["project", "other", "foot", "name", "ask"]) (sc := defScope s__law_is_alike) (by decide +kernel)) (fun _ _ _ _ _ => pg_name (i := 4) sc__law_is_alike.nd rfl (Or.inl rfl)) (fun _ _ _ _ _ => pts_nil) (fun _ _ _ _ _ => (pe_cmpR (op_eqU K hr.units) (pe_mcal M_looked_up TP.cl hr (pv 0) (pa_cons (pv 4) pa_nil)) (pe_mcal M_looked_up TP.cl hr (pv 1) (pa_cons (pv 4) pa_nil)) (nomark _)))) pa_nil))))), ?_⟩
    obtain ⟨fa, vn, vl, rfl, hfa, hvn, hvl⟩ := Dt.pair (show Dt K H (.tuple [.tuple (N.map .str), .tuple (L.map kzPy)]) vf from hvf)
    obtain ⟨na, xn, rfl, hsn, hqn⟩ := hvn.tup
    obtain ⟨la, xl, rfl, hsl, hql⟩ := hvl.tup
    have hnl := hqn.length
    have hll := hql.length
    rw [List.length_map] at hnl hll
    walk_at "rd"
    refine i_ix_t hfa (atI_nat (j := 0) rfl) ?_
    refine f_tup hsn (fun i σ H4 => ∃ y1 y2 : Option V, σ = [some (.ref p1), some (.ref p2), some (.ref fa), y1, y2] ∧ H4 = H ∧ ∀ n ∈ N.take i, lookP prs1 n = lookP prs2 n) ?_ ?_ ?_ ?_
    · exact ⟨none, none, rfl, rfl, fun n hn => by rw [List.take_zero] at hn; cases hn⟩
    · rintro i σ H4 _ ⟨y1, y2, rfl, rfl, _⟩
      exact hsn
    · rintro i x σ H4 hx ⟨y1, y2, rfl, rfl, hal⟩
      obtain ⟨d, hdi, hdx⟩ := hqn.get hx
      rw [List.getElem?_map] at hdi
      cases hni : N[i]? with
      | none => rw [hni] at hdi; cases hdi
      | some n =>
      rw [hni] at hdi
      cases (Option.some.inj hdi)
      have e := hdx.str
      subst e
      walk_at "rd"
      obtain ⟨dx1, t1, kv1, a1, b1, c1⟩ := id hp1
      refine i_mk a1 rfl ?_
      walk_at "rd"
      refine ⟨p1, prs1, n, rfl, hp1, ok1, fun w1 hw1 => ?_⟩
      walk_at "rd"
      obtain ⟨dx2, t2, kv2, a2, b2, c2⟩ := id hp2
      refine i_mk a2 rfl ?_
      walk_at "rd"
      refine ⟨p2, prs2, n, rfl, hp2, ok2, fun w2 hw2 => ?_⟩
      refine i_neD (od_dt hw1) (od_dt hw2) (shaped_c2 (src_good ok1 n)) (shaped_c2 (src_good ok2 n)) ?_
      by_cases hs : lookP prs1 n = lookP prs2 n
      · rw [src_eqT ok1 ok2 hs]
        walk_at "rd"
        refine ⟨_, _, rfl, rfl, fun m hm => ?_⟩
        rw [take_snoc hni] at hm
        rcases List.mem_append.mp hm with hm | hm
        · exact hal m hm
        · rw [List.mem_singleton.mp hm]; exact hs
      · rw [src_eqF ok1 ok2 hs]
        walk_at "rd"
        refine q H4 false (.refl _) ⟨fun h => (by cases h), fun h => absurd (h.1 n (List.mem_of_getElem? hni)) hs⟩
    · rintro σ H4 ⟨y1, y2, rfl, rfl, hal⟩
      rw [List.take_of_length_le (by omega)] at hal
      walk_at "rd"
      refine i_ix_t hfa (atI_nat (j := 1) rfl) ?_
      refine c_tup hsl (szlt (by omega)) (fun D i acc H5 => Same H4 H5 ∧ ∃ bs : List Bool, acc = bs.map V.bl ∧ bs.length = i ∧ (bs.all id = true ↔ ∀ q ∈ L.take i, lookedUp prs1 q.1 q.2 = lookedUp prs2 q.1 q.2)) ?_ ?_ ?_ ?_
      · exact fun D H5 _ s5 _ => ⟨s5, [], rfl, rfl, by simp⟩
      · exact fun D i acc H5 _ h => sqT_tt (.same h.1) hsl
      · rintro D i x acc H5 hD hx hl hi ha ⟨s5, bs, rfl, lb, hb⟩
        obtain ⟨d, hdi, hdx⟩ := hql.get hx
        rw [List.getElem?_map] at hdi
        cases hqi : L[i]? with
        | none => rw [hqi] at hdi; cases hdi
        | some q0 =>
        rw [hqi] at hdi
        cases (Option.some.inj hdi)
        have hk := hK q0 (List.mem_of_getElem? hqi)
        have dq : Dt K H5 (.tuple [.str q0.1, .str q0.2]) x := hdx.mono (.same s5)
        walk_at "rd"
        refine ⟨rfl, ?_⟩
        have hp15 := hp1.same s5
        have hp25 := hp2.same s5
        walk_at "rd"
        obtain ⟨dx1, t1, kv1, a1, b1, c1⟩ := id hp15
        refine i_mk a1 rfl ?_
        walk_at "rd"
        refine ⟨p1, x, prs1, q0.1, q0.2, rfl, hp15, ok1, dq, fun H6 v6 s6 hv6 => ?_⟩
        walk_at "rd"
        obtain ⟨dx2, t2, kv2, a2, b2, c2⟩ := id (hp25.same s6)
        refine i_mk a2 rfl ?_
        walk_at "rd"
        refine ⟨p2, x, prs2, q0.1, q0.2, rfl, hp25.same s6, ok2, dq.mono (.same s6), fun H7 v7 s7 hv7 => ?_⟩
        have g1 := lookd_good ok1 (z := q0.2) hk.1
        have g2 := lookd_good ok2 (z := q0.2) hk.1
        refine i_eqD (hv6.mono (.same s7)) hv7 (shaped_c2 (good_cmp g1.1 g1.2)) (shaped_c2 (good_cmp g2.1 g2.2)) ?_
        have s57 := s6.trans s7
        refine i_ck (s57 _ _ ha) hl hi fun H8 b8 e8 => ⟨Same.but (s5.trans s57) hD b8, bs ++ [PyData.eqv (lookedUp prs1 q0.1 q0.2) (lookedUp prs2 q0.1 q0.2)], by rw [List.map_append]; rfl, by rw [List.length_append, lb]; rfl, ?_⟩
        rw [take_snoc hqi, List.all_append, Bool.and_eq_true, hb]
        constructor
        · rintro ⟨h1, h2⟩ m hm
          rcases List.mem_append.mp hm with hm | hm
          · exact h1 m hm
          · rw [List.mem_singleton.mp hm]
            have h2 : PyData.eqv (lookedUp prs1 q0.1 q0.2) (lookedUp prs2 q0.1 q0.2) = true := by simpa using h2
            exact eqv_eq _ _ g1.1 g2.1 h2
        · intro h
          refine ⟨fun m hm => h m (List.mem_append_left _ hm), ?_⟩
          have := h q0 (List.mem_append_right _ (List.mem_singleton_self _))
          rw [this]
          simp [SeqAt.eqv_refl _ (good_cmp g2.1 g2.2).1]
      · rintro D acc H5 hD hl ha ⟨s5, bs, rfl, lb, hb⟩
        rw [List.take_of_length_le (by omega)] at hb
        walk_at "rd"
        refine i_all (.inl (.inl ha)) ?_
        exact q H5 _ s5 (hb.trans ⟨fun h => ⟨hal, h⟩, fun h => h.2⟩)
end
end Aw

namespace Aw
open PySem PySem.Spec PyProof.Rows L2
/-! ### the order of looks -/
theorem ltK_tri {p q : Str × Str} (h1 : AwS.ltK p q = false) (h2 : AwS.ltK q p = false) : p = q := by
  unfold AwS.ltK at h1 h2
  by_cases e : p.1 = q.1
  · rw [if_pos e] at h1
    rw [if_pos e.symm] at h2
    have a1 := of_decide_eq_false h1
    have a2 := of_decide_eq_false h2
    refine Prod.ext e ?_
    by_cases c : p.2 = q.2
    · exact c
    · exact absurd (AwS.lt_of_nlt a1 (AwS.cps_ne c)) a2
  · rw [if_neg e] at h1
    rw [if_neg fun z => e z.symm] at h2
    exact absurd (AwS.lt_of_nlt (of_decide_eq_false h1) (AwS.cps_ne e)) (of_decide_eq_false h2)
theorem leK_anti {p q : Str × Str} (h1 : leK p q = true) (h2 : leK q p = true) : p = q := by
  unfold leK at h1 h2
  exact ltK_tri (by simpa using h2) (by simpa using h1)
theorem pwK_unique : ∀ {l m : List (Str × Str)}, l.Perm m → (l.Pairwise fun a b => leK a b = true) → (m.Pairwise fun a b => leK a b = true) → l = m
  | [], m, p, _, _ => p.nil_eq
  | a :: l, m, p, h1, h2 => by
    obtain ⟨k1, k2⟩ := List.pairwise_cons.mp h1
    cases m with
    | nil => exact absurd p.length_eq (by simp)
    | cons b m =>
      obtain ⟨j1, j2⟩ := List.pairwise_cons.mp h2
      have ab : a = b := by
        rcases List.mem_cons.mp (p.mem_iff.mp (List.mem_cons_self ..)) with e | e
        · exact e
        · rcases List.mem_cons.mp (p.mem_iff.mpr (List.mem_cons_self ..)) with e2 | e2
          · exact e2.symm
          · exact leK_anti (k1 b e2) (j1 a e)
      subst ab
      rw [pwK_unique (List.perm_cons a |>.mp p) k2 j2]
/-- has ahead of names -/
theorem has_names {p q : Str × Str} (h1 : p.1 = "has") (h2 : q.1 = "names") : leK p q = true := by
  unfold leK AwS.ltK
  rw [h1, h2, if_neg (by decide +kernel)]
  decide +kernel
theorem looks_split {L q1 q2 : List (Str × Str)} (hL : ∀ q ∈ L, KzOk q) (p1 : q1.Perm (L.filter fun p => decide (p.1 = "has"))) (w1 : q1.Pairwise fun x y => leK x y = true) (p2 : q2.Perm (L.filter fun p => decide (p.1 = "names"))) (w2 : q2.Pairwise fun x y => leK x y = true) :
    (q1 ++ q2).Perm L ∧ (q1 ++ q2).Pairwise fun x y => leK x y = true := by
  refine ⟨(p1.append p2).trans ?_, List.pairwise_append.mpr ⟨w1, w2, fun a ha b hb => ?_⟩⟩
  · have e : L.filter (fun p : Str × Str => decide (p.1 = "names")) = L.filter fun p : Str × Str => !decide (p.1 = "has") := by
      refine List.filter_congr fun q hq => ?_
      rcases (hL q hq).1 with e | e <;> rw [e] <;> decide +kernel
    rw [e]
    exact List.filter_append_perm (fun p : Str × Str => decide (p.1 = "has")) L
  · have h1 := (List.mem_filter.mp (p1.mem_iff.mp ha)).2
    have h2 := (List.mem_filter.mp (p2.mem_iff.mp hb)).2
    exact has_names (of_decide_eq_true h1) (of_decide_eq_true h2)
end Aw

namespace Aw
open PySem PySem.Spec PyProof.Rows L2

local macro_rules | `(tactic| walk_at "rd1") => `(tactic| first
  | ((with_reducible apply i_var); exact rfl)
  | with_reducible refine i_c ?_
  | with_reducible refine i_op ?_
  | with_reducible refine i_un ?_
  | with_reducible refine i_test ?_
  | with_reducible refine i_tB ?_
  | with_reducible refine i_bl ?_
  | with_reducible refine i_and ?_
  | with_reducible refine i_or ?_
  | with_reducible refine i_not ?_
  | with_reducible refine i_andV ?_
  | with_reducible refine i_orV ?_
  | with_reducible refine i_notV ?_
  | with_reducible refine i_if ?_
  | with_reducible refine i_chain ?_
  | with_reducible refine i_nil ?_
  | with_reducible refine i_cons ?_
  | with_reducible refine i_tup ?_
  | with_reducible refine i_lst ?_
  | with_reducible refine i_cb ?_
  | with_reducible refine i_call ?_
  | with_reducible refine i_bm ?_
  | with_reducible refine i_m1 ?_
  | with_reducible refine i_m0 ?_
  | with_reducible refine i_exstr ?_
  | with_reducible refine i_sl ?_
  | with_reducible refine i_nopart ?_
  | with_reducible refine i_part ?_
  | with_reducible refine i_int ?_
  | with_reducible refine i_seq ?_
  | with_reducible refine i_next ?_
  | with_reducible refine i_asg ?_
  | with_reducible refine i_gname ?_
  | with_reducible refine i_ret ?_
  | with_reducible refine i_retN ?_
  | with_reducible refine i_drop ?_
  | with_reducible refine i_ifS ?_
  | with_reducible refine i_break ?_
  | with_reducible refine i_cont ?_
  | ((with_reducible apply i_aug); exact rfl)
  | with_reducible refine i_add_i ?_
  | with_reducible refine i_sub ?_
  | with_reducible refine i_neg ?_
  | with_reducible refine i_ipadd_i ?_
  | with_reducible refine i_ip ?_
  | with_reducible refine i_lt ?_
  | with_reducible refine i_le ?_
  | with_reducible refine i_gt ?_
  | with_reducible refine i_ge ?_
  | with_reducible refine i_lt_s ?_
  | with_reducible refine i_le_s ?_
  | with_reducible refine i_gt_s ?_
  | with_reducible refine i_ge_s ?_
  | with_reducible refine i_isN ?_
  | with_reducible refine i_notN ?_
  | with_reducible refine i_in_c ?_
  | with_reducible refine i_nin_c ?_
  | with_reducible refine i_gsub ?_
  | with_reducible refine i_gcons ?_
  | with_reducible refine i_gnil ?_
  | with_reducible refine i_iList ?_
  | with_reducible refine i_iTup ?_
  | with_reducible refine i_iStr ?_
  | with_reducible refine i_iRng1 ?_
  | with_reducible refine i_lc ?_
  | with_reducible refine i_for ?_
  | with_reducible refine i_yes ?_
  | with_reducible refine i_repl ?_
  | with_reducible refine i_meth ?_
  | with_reducible refine i_fld ?_
  | with_reducible refine i_sfld ?_
  | with_reducible refine i_din ?_
  | with_reducible refine i_dnin ?_
  | with_reducible refine i_dget ?_
  | with_reducible refine i_dput ?_
  | with_reducible refine i_joined ?_
  | with_reducible refine i_callS ?_
  | with_reducible refine i_xf ?_
  | with_reducible refine i_revL ?_
  | with_reducible refine i_items ?_
  | with_reducible refine i_stepL ?_
  | with_reducible refine i_stepV ?_
  | with_reducible refine i_make ?_
  | with_reducible refine i_fmt ?_
  | with_reducible refine i_jcons ?_
  | with_reducible refine i_jnil ?_
  | with_reducible refine i_iEnum ?_
  | with_reducible refine i_faug ?_
  | with_reducible refine i_dget2 ?_
  | with_reducible refine i_kin ?_
  | with_reducible refine i_kix ?_
  | with_reducible refine i_bm0 ?_
  | with_reducible refine i_meth ?_
  | with_reducible refine iteT ?_
  | with_reducible refine iteF ?_
  | with_reducible refine iteNT ?_
  | with_reducible refine iteNF ?_
  | ((with_reducible refine i_len_s ?_ ?_); (first | assumption | exact szl (by assumption)))
  | ((with_reducible refine i_sl_s ?_ ?_); (first | assumption | exact szl (by assumption)))
  | with_reducible refine i_int_b ?_
  | with_reducible refine i_abs ?_
  | with_reducible refine i_min2 ?_
  | with_reducible refine i_eq rfl ?_
  | with_reducible refine i_ne rfl ?_
  | with_reducible refine iteDR ?_
  | with_reducible refine iteRN ?_
  | with_reducible refine iteI1 ?_
  | with_reducible refine iteI2 ?_
  | with_reducible refine iteI3 ?_
  | with_reducible refine iteI4 ?_
  | with_reducible refine iteSN ?_
  | with_reducible refine iteNDR ?_
  | with_reducible refine iteNRN ?_
  | with_reducible refine iteNSN ?_
  | with_reducible refine iteST (by first | rfl | decide) ?_
  | with_reducible refine iteSF (by decide) ?_
  | with_reducible refine iteNST (by first | rfl | decide) ?_
  | with_reducible refine iteNSF (by decide) ?_)
local macro_rules | `(tactic| walk_at "rd") => `(tactic| repeat walk_at "rd1")

abbrev s__law_right : Stmt := topS 75
theorem sc__law_right : FnScope ["project", "other", "feet", "papers", "names", "name"] ["project", "other", "feet", "papers", "names"] (defScope s__law_right) := ⟨rfl, rfl, rfl, by decide +kernel, rfl, by decide +kernel, by decide +kernel⟩
section
variable {P : Program} {w : World} {K : PySem.W.Frag} {mg : Str → Option Value} {base : Heap}
/-- the foot that is told -/
def FootIs (prs : Prs) (z : Str) (d : PyData) : Prop := ∃ qs : List (Str × Str), qs.Perm (footOf (paperD prs z) z).2 ∧ (qs.Pairwise fun x y => leK x y = true) ∧ d = footPy (srtN (footOf (paperD prs z) z).1) qs
theorem FootIs.fn {prs : Prs} {z : Str} {d e : PyData} (h : FootIs prs z d) (k : FootIs prs z e) : d = e := by
  obtain ⟨q1, p1, w1, rfl⟩ := h
  obtain ⟨q2, p2, w2, rfl⟩ := k
  rw [pwK_unique (p1.trans p2.symm) w1 w2]
/-- a dict of data by names -/
def DMap (K : PySem.W.Frag) (H : Hp) (a : Addr) (R : Str → PyData → Prop) (zs : List Str) : Prop := ∃ kvs, H a = some (.dK kvs) ∧ ∀ z ∈ zs, ∃ v d, valV kvs (Sum.inr z : Key) = some v ∧ R z d ∧ Dt K H d v
theorem DMap.same {H H' : Hp} {a : Addr} {R : Str → PyData → Prop} {zs : List Str} (h : DMap K H a R zs) (s : Same H H') : DMap K H' a R zs := by
  obtain ⟨kvs, e, h⟩ := h
  exact ⟨kvs, s _ _ e, fun z hz => let ⟨v, d, g, r, t⟩ := h z hz; ⟨v, d, g, r, t.mono (.same s)⟩⟩
theorem DMap.pot {H H' : Hp} {a p : Addr} {R : Str → PyData → Prop} {zs : List Str} (h : DMap K H a R zs) (hp : Pot H p) (b : Bt p H H') : DMap K H' a R zs := by
  obtain ⟨kvs, e, h⟩ := h
  have st := hp.stay b
  obtain ⟨n, en⟩ := hp
  exact ⟨kvs, b.ne en e (fun z => nomatch z), fun z hz => let ⟨v, d, g, r, t⟩ := h z hz; ⟨v, d, g, r, t.mono st⟩⟩
theorem foot_lens {prs : Prs} (hp : PrsOk prs) (h : prs.length ≤ 50) {z : Str} (hz : nameOk z = true) : (footOf (paperD prs z) z).1.length ≤ 16000 ∧ (footOf (paperD prs z) z).2.length ≤ 16000 ∧ (paperD prs z).length ≤ 50 := by
  have hpk := paper_ok hp hz
  have h1 := runs_len (m := 301) (paperD prs z) ([z], []) fun q hq => (hpk q hq).2.n
  obtain ⟨hnd, hin⟩ := met_len hp hz
  have hml : (paperD prs z).length ≤ 50 := by
    have h1 := nodup_len hnd hin
    unfold names at h1
    rw [List.length_map] at h1
    unfold paperD
    rw [List.length_map]
    omega
  have h2 : (paperD prs z).length * (301 + 1) ≤ 50 * (301 + 1) := Nat.mul_le_mul_right _ hml
  simp only [List.length_cons, List.length_nil] at h1
  unfold footOf
  omega
theorem foot_cmp {N : List Str} {L : List (Str × Str)} (h1 : ∀ z ∈ N, PyData.canLay0 (.str z) = true) (h2 : ∀ q ∈ L, KzOk q) : cmpOk (footPy N L) := by
  have a1 : PyData.canLayAll0 (N.map .str) = true ∧ PyData.depthAll (N.map .str) ≤ 1 := by
    induction N with
    | nil => exact ⟨rfl, Nat.zero_le _⟩
    | cons z r ih =>
      obtain ⟨i1, i2⟩ := ih fun x hx => h1 x (List.mem_cons_of_mem _ hx)
      have := h1 z (List.mem_cons_self ..)
      rw [List.map_cons]
      simp only [PyData.canLayAll0, PyData.depthAll, PyData.depth]
      rw [this, i1]
      exact ⟨rfl, by omega⟩
  have a2 : PyData.canLayAll0 (L.map kzPy) = true ∧ PyData.depthAll (L.map kzPy) ≤ 3 := by
    induction L with
    | nil => exact ⟨rfl, Nat.zero_le _⟩
    | cons z r ih =>
      obtain ⟨i1, i2⟩ := ih fun x hx => h2 x (List.mem_cons_of_mem _ hx)
      have hc := (kz_cmpOk (h2 z (List.mem_cons_self ..))).1
      have hd : (kzPy z).depth ≤ 3 := by unfold kzPy; simp only [PyData.depth, PyData.depthAll]; omega
      rw [List.map_cons]
      simp only [PyData.canLayAll0, PyData.depthAll]
      rw [hc, i1]
      exact ⟨rfl, by omega⟩
  unfold footPy
  refine ⟨?_, ?_⟩
  · simp only [PyData.canLay0, PyData.canLayAll0]
    rw [a1.1, a2.1]
    rfl
  · simp only [PyData.depth, PyData.depthAll]
    omega
theorem foot_names {prs : Prs} (hp : PrsOk prs) {z : Str} (hz : nameOk z = true) : ∀ x ∈ (footOf (paperD prs z) z).1, PyData.canLay0 (.str x) = true := fun x hx => by
  have hpk := paper_ok hp hz
  unfold footOf at hx
  rcases (foot_mem _ _ _).mp hx with hx | hx
  · rw [List.mem_singleton.mp hx]; exact good_lay _ (treeOk_good (name_tree hz)).g
  · unfold allN at hx
    obtain ⟨p, hp, hx⟩ := List.mem_flatMap.mp hx
    rcases List.mem_cons.mp hx with rfl | hx
    · exact good_lay _ (treeOk_good (name_tree (hpk p hp).1)).g
    · obtain ⟨ak, hak, rfl⟩ := List.mem_map.mp hx
      exact good_lay _ (treeOk_good ((hpk p hp).2.a ak (List.mem_filter.mp hak).1).z).g
theorem FootIs.cmp {prs : Prs} (hp : PrsOk prs) {z : Str} (hz : nameOk z = true) {d : PyData} (h : FootIs prs z d) : cmpOk d := by
  obtain ⟨qs, pm, pw, rfl⟩ := h
  exact foot_cmp (fun x hx => foot_names hp hz x ((srtN_perm _).mem_iff.mp hx)) fun q hq => foot_looks (paper_ok hp hz) (fun q h => (List.not_mem_nil h).elim) q (pm.mem_iff.mp hq)
theorem end_cmp {e : End} (h : EndOk e) : PyData.canLay0 e.py = true ∧ e.py.depth ≤ 16 := by
  cases e with
  | said d =>
    have g := treeOk_good (show treeOk d = true from h)
    have h1 := good_lay _ g.g
    have h2 := depth_tdeep _ g.g
    have h3 := g.dp
    unfold End.py
    refine ⟨?_, ?_⟩
    · simp only [PyData.canLay0, PyData.canLayAll0]
      rw [h1]
      decide +kernel
    · simp only [PyData.depth, PyData.depthAll]
      omega
  | fault w =>
    have : ∀ w ∈ faults ++ (["rule"] : List Str), PyData.canLay0 (.tuple [.str "fault", .str w]) = true := by decide +kernel
    exact ⟨this w h, by show PyData.depth (.tuple [.str "fault", .str w]) ≤ 16; simp only [PyData.depth, PyData.depthAll]; omega⟩
  | stuck z =>
    have h1 := good_lay _ (treeOk_good (name_tree h)).g
    unfold End.py
    refine ⟨?_, ?_⟩
    · simp only [PyData.canLay0, PyData.canLayAll0] at h1 ⊢
      rw [h1]
      decide +kernel
    · simp only [PyData.depth, PyData.depthAll]
      omega
theorem got_cmp {g : Got} (h : GotOk g) : cmpOk g.py := by
  cases g with
  | going => exact ⟨rfl, by show PyData.depth .none ≤ 20; decide⟩
  | lack => exact ⟨by decide +kernel, by decide +kernel⟩
  | value d =>
    have := end_cmp (e := .said d) h
    unfold End.py at this
    unfold Got.py
    obtain ⟨h1, h2⟩ := this
    refine ⟨?_, ?_⟩
    · simp only [PyData.canLay0, PyData.canLayAll0, Bool.and_eq_true, and_true] at h1 ⊢
      exact ⟨by decide +kernel, h1.2⟩
    · simp only [PyData.depth, PyData.depthAll] at h2 ⊢
      omega
  | bad e =>
    have := end_cmp (e := e) h
    exact ⟨this.1, Nat.le_trans this.2 (by decide)⟩
theorem asked_dp {a : Asked} (h : FAskOk a) : a.py.depth ≤ 16 := by
  have ha : (ansPy a.2.2).depth ≤ 15 := by
    cases e : a.2.2 with
    | none => show _ ≤ 15; decide
    | some d =>
      have g := treeOk_good (h.d d e)
      have := depth_tdeep _ g.g
      have := g.dp
      show d.depth ≤ 15
      omega
  unfold Asked.py
  simp only [PyData.depth, PyData.depthAll]
  omega
theorem step_cmp {p : Str × Run} (hn : nameOk p.1 = true) (h : RunOk p.2) : PyData.canLay0 (stepPy p) = true ∧ (stepPy p).depth ≤ 19 := by
  have h1 := good_lay _ (treeOk_good (name_tree hn)).g
  have h2 : PyData.canLayAll0 (p.2.1.map Asked.py) = true ∧ PyData.depthAll (p.2.1.map Asked.py) ≤ 16 := by
    have := h.a
    generalize p.2.1 = as at this
    induction as with
    | nil => exact ⟨rfl, Nat.zero_le _⟩
    | cons a r ih =>
      obtain ⟨i1, i2⟩ := ih fun b hb => this b (List.mem_cons_of_mem _ hb)
      have hc := asked_cmp (this a (List.mem_cons_self ..))
      have hd := asked_dp (this a (List.mem_cons_self ..))
      rw [List.map_cons]
      simp only [PyData.canLayAll0, PyData.depthAll]
      rw [hc.1, i1]
      exact ⟨rfl, by omega⟩
  have h3 := end_cmp h.e
  unfold stepPy
  refine ⟨?_, ?_⟩
  · simp only [PyData.canLay0, PyData.canLayAll0] at h1 ⊢
    rw [h1, h2.1, h3.1]
    rfl
  · simp only [PyData.depth, PyData.depthAll]
    omega
theorem paper_cmp {prs : Prs} (hp : PrsOk prs) {z : Str} (hz : nameOk z = true) : cmpOk (.tuple ((paperD prs z).map stepPy)) := by
  have h := paper_ok hp hz
  generalize paperD prs z = ps at h
  have key : PyData.canLayAll0 (ps.map stepPy) = true ∧ PyData.depthAll (ps.map stepPy) ≤ 19 := by
    induction ps with
    | nil => exact ⟨rfl, Nat.zero_le _⟩
    | cons p r ih =>
      obtain ⟨i1, i2⟩ := ih fun q hq => h q (List.mem_cons_of_mem _ hq)
      obtain ⟨c1, c2⟩ := h p (List.mem_cons_self ..)
      obtain ⟨d1, d2⟩ := step_cmp c1 c2
      rw [List.map_cons]
      simp only [PyData.canLayAll0, PyData.depthAll]
      rw [d1, i1]
      exact ⟨rfl, by omega⟩
  refine ⟨?_, ?_⟩
  · simp only [PyData.canLay0]
    exact key.1
  · simp only [PyData.depth]
    omega
def PaperIs (prs : Prs) (z : Str) (d : PyData) : Prop := d = .tuple ((paperD prs z).map stepPy)
def spRight (K : PySem.W.Frag) (CP : Addr) : Sp := fun vs H Q _ => ∃ (p1 p2 fa pa ln : Addr) (prs1 prs2 : Prs) (zs : List Str), vs = [.ref p1, .ref p2, .ref fa, .ref pa, .ref ln] ∧ IsPr K CP H p1 prs1 ∧ IsPr K CP H p2 prs2 ∧ PrsOk prs1 ∧ PrsOk prs2 ∧ prs1.length ≤ 50 ∧ prs2.length ≤ 50 ∧ H ln = some (.lst (zs.map V.str)) ∧ (∀ z ∈ zs, nameOk z = true) ∧ zs.length ≤ 60 ∧
  DMap K H fa (FootIs prs1) zs ∧ DMap K H pa (PaperIs prs1) zs ∧ ∀ H', Same H H' → Q (.bl true) H'
theorem ok_right {CP : Addr} (D : Df K mg "_law_right" "_law_right" s__law_right ["project", "other", "feet", "papers", "names"]) (B : NoB mg) (C_alike_on : Cal P w K mg base CX0 "alike_on" ["project", "other", "names", "asks"] 3 (spAlike K CP)) (C__law_is_alike : Cal P w K mg base CX0 "_law_is_alike" ["project", "other", "foot"] 3 (spIsAlike K CP))
    (C_answer_of : Cal P w K mg base CX0 "answer_of" ["project", "name"] 226 (spAnsOf K CP)) (C_foot_of : Cal P w K mg base CX0 "foot_of" ["project", "name"] 228 (spFoot K CP)) (C_paper_of : Cal P w K mg base CX0 "paper_of" ["project", "name"] 227 (spPaperOf K CP)) :
    Cal P w K mg base CX0 "_law_right" ["project", "other", "feet", "papers", "names"] 229 (spRight K CP) := by
  refine D.cal fun f fd F => F.ok sc__law_right (fun vs H Q E h => ?_) (fun cdv A outer s H vs Q E hr h => ?_)
  · obtain ⟨_, _, _, _, _, _, _, _, rfl, _⟩ := h
    rfl
  · obtain ⟨p1, p2, fa, pa, ln, prs1, prs2, zs, rfl, hp1, hp2, ok1, ok2, l1, l2, el, hzs, hl60, hF, hP, q⟩ := h
    refine ⟨_, (pss_cons (ps_for PassesOwn.never rfl (pi_listU K (pv 4)) (pg_name (i := 5) sc__law_right.nd rfl (.inl rfl)) (pss_cons (ps_if (pt_cmpR (op_neU K hr.units) (pe_cal C_alike_on hr (by rfl) (pa_cons (pv 0) (pa_cons (pv 1) (pa_cons (pe_ix (ix_U K) (pe_dget (hu_of hr) (pv 2) (pv 5) (fun _ _ => rfl)) pe_int (fun _ _ => rfl)) (pa_cons (pe_ix (ix_U K) (pe_dget (hu_of hr) (pv 2) (pv 5) (fun _ _ => rfl)) pe_int (fun _ _ => rfl)) pa_nil))))) (pe_cal C__law_is_alike hr (by rfl) (pa_cons (pv 0) (pa_cons (pv 1) (pa_cons (pe_dget (hu_of hr) (pv 2) (pv 5) (fun _ _ => rfl)) pa_nil)))) (nomark _)) (pss_one (ps_ret pe_bl)) pss_nil)
      (pss_one (ps_if (pt_val (pe_cal C__law_is_alike hr (by rfl) (pa_cons (pv 0) (pa_cons (pv 1) (pa_cons (pe_dget (hu_of hr) (pv 2) (pv 5) (fun _ _ => rfl)) pa_nil))))) (pss_cons (ps_if (PW.pt (pw_or (pt_cmpR (op_neU K hr.units) (pe_cal C_answer_of hr (by rfl) (pa_cons (pv 0) (pa_cons (pv 5) pa_nil))) (pe_cal C_answer_of hr (by rfl) (pa_cons (pv 1) (pa_cons (pv 5) pa_nil))) (nomark _)) (pw_or1 (pt_cmpR (op_neU K hr.units) (pe_cal C_foot_of hr (by rfl) (pa_cons (pv 1) (pa_cons (pv 5) pa_nil))) (pe_dget (hu_of hr) (pv 2) (pv 5) (fun _ _ => rfl)) (nomark _))))) (pss_one (ps_ret pe_bl)) pss_nil)
      (pss_one (ps_if (pt_cmpR (op_neU K hr.units) (pe_dget (hu_of hr) (pv 3) (pv 5) (fun _ _ => rfl)) (pe_cal C_paper_of hr (by rfl) (pa_cons (pv 1) (pa_cons (pv 5) pa_nil))) (nomark _)) (pss_one (ps_ret pe_bl)) pss_nil))) pss_nil))))
      (pss_one (ps_ret pe_bl))), ?_⟩
    walk_at "rd"
    refine f_list (.inl (.inl el)) (fun i σ H1 => ∃ y5 : Option V, σ = [some (.ref p1), some (.ref p2), some (.ref fa), some (.ref pa), some (.ref ln), y5] ∧ Same H H1) ?_ ?_ ?_ ?_
    · exact ⟨none, rfl, .refl _⟩
    · rintro i σ H1 _ ⟨y5, rfl, s1⟩
      exact .inl (.inl (s1 _ _ el))
    · rintro i x σ H1 hx ⟨y5, rfl, s1⟩
      rw [List.getElem?_map] at hx
      cases hzi : zs[i]? with
      | none => rw [hzi] at hx; cases hx
      | some z =>
      rw [hzi] at hx
      cases (Option.some.inj hx)
      have hzm := List.mem_of_getElem? hzi
      have hz := hzs z hzm
      obtain ⟨kf, ef, hF⟩ := hF
      obtain ⟨vf, df, gf, rf, tf⟩ := hF z hzm
      obtain ⟨kp, ep, hP⟩ := hP
      obtain ⟨vp, dp, gp, rp, tp⟩ := hP z hzm
      have hcf := rf.cmp ok1 hz
      obtain ⟨qs, pm, pw, rfl⟩ := id rf
      have hkz : ∀ q ∈ qs, KzOk q := fun q hq => foot_looks (paper_ok ok1 hz) (fun q h => (List.not_mem_nil h).elim) q (pm.mem_iff.mp hq)
      obtain ⟨fl1, fl2, fl3⟩ := foot_lens ok1 l1 hz
      obtain ⟨fb, vn, vl, rfl, hfb, hvn, hvl⟩ := Dt.pair (show Dt K H (.tuple [.tuple ((srtN (footOf (paperD prs1 z) z).1).map .str), .tuple (qs.map kzPy)]) vf from tf)
      walk_at "rd"
      have gdf : ∀ {H' : Hp}, Same H H' → ∀ {Q' : VK}, Q' (.ref fb) H' → DGK (.ref fa) (.str z) H' Q' := fun {H'} s' {Q'} h => i_dgk (s' _ _ ef) gf h
      have gdp : ∀ {H' : Hp}, Same H H' → ∀ {Q' : VK}, Q' vp H' → DGK (.ref pa) (.str z) H' Q' := fun {H'} s' {Q'} h => i_dgk (s' _ _ ep) gp h
      have iff1 : ∀ {b : Bool}, (b = true ↔ Alk prs1 prs2 (srtN (footOf (paperD prs1 z) z).1) qs) → (b = true ↔ Alk prs1 prs2 (footOf (paperD prs1 z) z).1 (footOf (paperD prs1 z) z).2) := fun {b} h =>
        h.trans ⟨fun h => ⟨fun n hn => h.1 n ((srtN_perm _).mem_iff.mpr hn), fun q hq => h.2 q (pm.mem_iff.mpr hq)⟩, fun h => ⟨fun n hn => h.1 n ((srtN_perm _).mem_iff.mp hn), fun q hq => h.2 q (pm.mem_iff.mp hq)⟩⟩
      refine gdf s1 ?_
      walk_at "rd"
      refine i_ix_t (sqT_tt (.same s1) hfb) (atI_nat (j := 0) rfl) ?_
      walk_at "rd"
      refine gdf s1 ?_
      walk_at "rd"
      refine i_ix_t (sqT_tt (.same s1) hfb) (atI_nat (j := 1) rfl) ?_
      walk_at "rd"
      refine ⟨p1, p2, prs1, prs2, vn, vl, _, qs, rfl, hp1.same s1, hp2.same s1, ok1, ok2, hvn.mono (.same s1), hvl.mono (.same s1), hkz, by rw [(srtN_perm _).length_eq]; omega, by rw [pm.length_eq]; omega, fun H2 b2 s2 hb2 => ?_⟩
      have s02 := s1.trans s2
      walk_at "rd"
      refine gdf s02 ?_
      walk_at "rd"
      refine ⟨p1, p2, prs1, prs2, .ref fb, _, qs, rfl, hp1.same s02, hp2.same s02, ok1, ok2, tf.mono (.same s02), hkz, by rw [(srtN_perm _).length_eq]; omega, by rw [pm.length_eq]; omega, fun H3 b3 s3 hb3 => ?_⟩
      have s03 := s02.trans s3
      have e23 : b2 = b3 := by rw [Bool.eq_iff_iff, hb2, hb3]
      subst e23
      refine i_ne rfl ?_
      rw [decide_eq_true rfl]
      walk_at "rd"
      refine gdf s03 ?_
      walk_at "rd"
      refine ⟨p1, p2, prs1, prs2, .ref fb, _, qs, rfl, hp1.same s03, hp2.same s03, ok1, ok2, tf.mono (.same s03), hkz, by rw [(srtN_perm _).length_eq]; omega, by rw [pm.length_eq]; omega, fun H4 b4 s4 hb4 => ?_⟩
      have s04 := s03.trans s4
      cases hb : b4 with
      | false =>
        walk_at "rd"
        exact ⟨_, rfl, s04⟩
      | true =>
        have hal := (iff1 hb4).mp hb
        walk_at "rd"
        refine ⟨p1, prs1, z, rfl, hp1.same s04, ok1, l1, hz, fun H5 v5 s5 hv5 => ?_⟩
        walk_at "rd"
        refine ⟨p2, prs2, z, rfl, hp2.same (s04.trans s5), ok2, l2, hz, fun H6 v6 s6 hv6 => ?_⟩
        rw [alike_got ok1 ok2 l1 l2 hz hal] at hv6
        have hg : GotOk (gotO prs1 (orcT prs1) z) := by
          have := (top_ok ok1 hz).1
          rw [(top_det l1 z).1] at this
          exact this
        refine i_neD (hv5.mono (.same s6)) hv6 (shaped_c2 (got_cmp hg)) (shaped_c2 (got_cmp hg)) ?_
        rw [SeqAt.eqv_refl _ (got_cmp hg).1]
        walk_at "rd"
        have s06 := s04.trans (s5.trans s6)
        refine ⟨p2, prs2, z, rfl, hp2.same s06, ok2, l2, hz, fun H7 v7 q7 s7 pm7 pw7 hv7 => ?_⟩
        walk_at "rd"
        have s07 := s06.trans s7
        refine gdf s07 ?_
        have e7 : footPy (srtN (footOf (paperD prs2 z) z).1) q7 = footPy (srtN (footOf (paperD prs1 z) z).1) qs := by
          rw [alike_paper ok1 ok2 l1 l2 hz hal] at pm7 ⊢
          rw [pwK_unique (pm7.trans pm.symm) pw7 pw]
        rw [e7] at hv7
        refine i_neD hv7 (tf.mono (.same s07)) (shaped_c2 hcf) (shaped_c2 hcf) ?_
        rw [SeqAt.eqv_refl _ hcf.1]
        walk_at "rd"
        refine gdp s07 ?_
        walk_at "rd"
        refine ⟨p2, prs2, z, rfl, hp2.same s07, ok2, l2, hz, fun H8 v8 s8 hv8 => ?_⟩
        rw [alike_paper ok1 ok2 l1 l2 hz hal] at hv8
        have rp : dp = _ := rp
        rw [rp] at tp
        have hcp := paper_cmp ok1 hz
        refine i_neD (tp.mono (.same (s07.trans s8))) hv8 (shaped_c2 hcp) (shaped_c2 hcp) ?_
        rw [SeqAt.eqv_refl _ hcp.1]
        walk_at "rd"
        exact ⟨_, rfl, s07.trans s8⟩
    · rintro σ H1 ⟨y5, rfl, s1⟩
      walk_at "rd"
      exact q H1 s1
end
end Aw

namespace Aw
open PySem PySem.Spec PyProof.Rows L2

local macro_rules | `(tactic| walk_at "rd1") => `(tactic| first
  | ((with_reducible apply i_var); exact rfl)
  | with_reducible refine i_c ?_
  | with_reducible refine i_op ?_
  | with_reducible refine i_un ?_
  | with_reducible refine i_test ?_
  | with_reducible refine i_tB ?_
  | with_reducible refine i_bl ?_
  | with_reducible refine i_and ?_
  | with_reducible refine i_or ?_
  | with_reducible refine i_not ?_
  | with_reducible refine i_andV ?_
  | with_reducible refine i_orV ?_
  | with_reducible refine i_notV ?_
  | with_reducible refine i_if ?_
  | with_reducible refine i_chain ?_
  | with_reducible refine i_nil ?_
  | with_reducible refine i_cons ?_
  | with_reducible refine i_tup ?_
  | with_reducible refine i_lst ?_
  | with_reducible refine i_cb ?_
  | with_reducible refine i_call ?_
  | with_reducible refine i_bm ?_
  | with_reducible refine i_m1 ?_
  | with_reducible refine i_m0 ?_
  | with_reducible refine i_exstr ?_
  | with_reducible refine i_sl ?_
  | with_reducible refine i_nopart ?_
  | with_reducible refine i_part ?_
  | with_reducible refine i_int ?_
  | with_reducible refine i_seq ?_
  | with_reducible refine i_next ?_
  | with_reducible refine i_asg ?_
  | with_reducible refine i_gname ?_
  | with_reducible refine i_ret ?_
  | with_reducible refine i_retN ?_
  | with_reducible refine i_drop ?_
  | with_reducible refine i_ifS ?_
  | with_reducible refine i_break ?_
  | with_reducible refine i_cont ?_
  | ((with_reducible apply i_aug); exact rfl)
  | with_reducible refine i_add_i ?_
  | with_reducible refine i_sub ?_
  | with_reducible refine i_neg ?_
  | with_reducible refine i_ipadd_i ?_
  | with_reducible refine i_ip ?_
  | with_reducible refine i_lt ?_
  | with_reducible refine i_le ?_
  | with_reducible refine i_gt ?_
  | with_reducible refine i_ge ?_
  | with_reducible refine i_lt_s ?_
  | with_reducible refine i_le_s ?_
  | with_reducible refine i_gt_s ?_
  | with_reducible refine i_ge_s ?_
  | with_reducible refine i_isN ?_
  | with_reducible refine i_notN ?_
  | with_reducible refine i_in_c ?_
  | with_reducible refine i_nin_c ?_
  | with_reducible refine i_gsub ?_
  | with_reducible refine i_gcons ?_
  | with_reducible refine i_gnil ?_
  | with_reducible refine i_iList ?_
  | with_reducible refine i_iTup ?_
  | with_reducible refine i_iStr ?_
  | with_reducible refine i_iRng1 ?_
  | with_reducible refine i_lc ?_
  | with_reducible refine i_for ?_
  | with_reducible refine i_yes ?_
  | with_reducible refine i_repl ?_
  | with_reducible refine i_meth ?_
  | with_reducible refine i_fld ?_
  | with_reducible refine i_sfld ?_
  | with_reducible refine i_din ?_
  | with_reducible refine i_dnin ?_
  | with_reducible refine i_dget ?_
  | with_reducible refine i_dput ?_
  | with_reducible refine i_joined ?_
  | with_reducible refine i_callS ?_
  | with_reducible refine i_xf ?_
  | with_reducible refine i_revL ?_
  | with_reducible refine i_items ?_
  | with_reducible refine i_stepL ?_
  | with_reducible refine i_make ?_
  | with_reducible refine i_fmt ?_
  | with_reducible refine i_jcons ?_
  | with_reducible refine i_jnil ?_
  | with_reducible refine i_iEnum ?_
  | with_reducible refine i_faug ?_
  | with_reducible refine i_dget2 ?_
  | with_reducible refine i_kin ?_
  | with_reducible refine i_kix ?_
  | with_reducible refine i_bm0 ?_
  | with_reducible refine i_meth ?_
  | with_reducible refine iteT ?_
  | with_reducible refine iteF ?_
  | with_reducible refine iteNT ?_
  | with_reducible refine iteNF ?_
  | ((with_reducible refine i_len_s ?_ ?_); (first | assumption | exact szl (by assumption)))
  | ((with_reducible refine i_sl_s ?_ ?_); (first | assumption | exact szl (by assumption)))
  | with_reducible refine i_int_b ?_
  | with_reducible refine i_abs ?_
  | with_reducible refine i_min2 ?_
  | with_reducible refine i_eq rfl ?_
  | with_reducible refine i_ne rfl ?_
  | with_reducible refine iteDR ?_
  | with_reducible refine iteRN ?_
  | with_reducible refine iteI1 ?_
  | with_reducible refine iteI2 ?_
  | with_reducible refine iteI3 ?_
  | with_reducible refine iteI4 ?_
  | with_reducible refine iteSN ?_
  | with_reducible refine iteNDR ?_
  | with_reducible refine iteNRN ?_
  | with_reducible refine iteNSN ?_
  | with_reducible refine iteST (by first | rfl | decide) ?_
  | with_reducible refine iteSF (by decide) ?_
  | with_reducible refine iteNST (by first | rfl | decide) ?_
  | with_reducible refine iteNSF (by decide) ?_)
local macro_rules | `(tactic| walk_at "rd") => `(tactic| repeat walk_at "rd1")

abbrev s__law_cell_at : Stmt := topS 63
theorem sc__law_cell_at : FnScope ["script", "k"] ["script", "k"] (defScope s__law_cell_at) := ⟨rfl, rfl, rfl, by decide +kernel, rfl, by decide +kernel, by decide +kernel⟩
abbrev s__law_pot : Stmt := topS 64
theorem sc__law_pot : FnScope ["cell", "salt", "step", "big", "k"] ["cell", "salt"] (defScope s__law_pot) := ⟨rfl, rfl, rfl, by decide +kernel, rfl, by decide +kernel, by decide +kernel⟩
abbrev s__law_take : Stmt := topS 65
theorem sc__law_take : FnScope ["pot", "many", "digit"] ["pot", "many"] (defScope s__law_take) := ⟨rfl, rfl, rfl, by decide +kernel, rfl, by decide +kernel, by decide +kernel⟩
abbrev s__law_word : Stmt := topS 66
theorem sc__law_word : FnScope ["pot", "names", "some"] ["pot", "names"] (defScope s__law_word) := ⟨rfl, rfl, rfl, by decide +kernel, rfl, by decide +kernel, by decide +kernel⟩
section
variable {P : Program} {w : World} {K : PySem.W.Frag} {mg : Str → Option Value} {base : Heap}
def spCellAt (K : PySem.W.Frag) : Sp := fun vs H Q _ => ∃ (a : Addr) (ns : List Int) (k : Nat), vs = [.ref a, .int (k : Nat)] ∧ SqL K H a (ns.map V.int) ∧ ∀ n : Int, Q (.int n) H
theorem ok_cell_at (D : Df K mg "_law_cell_at" "_law_cell_at" s__law_cell_at ["script", "k"]) (B : NoB mg) : Cal P w K mg base CX0 "_law_cell_at" ["script", "k"] 1 (spCellAt K) := by
  refine D.cal fun f fd F => F.ok sc__law_cell_at (fun vs H Q E h => ?_) (fun cdv A outer s H vs Q E hr h => ?_)
  · obtain ⟨_, _, _, rfl, _⟩ := h
    rfl
  · obtain ⟨a, ns, k, rfl, hs, q⟩ := h
    refine ⟨_, (pss_cons (ps_if (pt_cmpR op_ltU (pv 1) (pe_callB (call_lenU K) (by rfl) B.m_len (by decide +kernel) (pa_cons (pv 0) pa_nil)) (nomark _)) (pss_one (ps_ret (pe_ix (ix_U K) (pv 0) (pv 1) (fun _ _ => rfl)))) pss_nil)
      (pss_one (ps_ret pe_int))), ?_⟩
    walk_at "rd"
    refine i_len_l hs ?_
    walk_at "rd"
    rw [List.length_map]
    by_cases hk : k < ns.length
    · rw [decide_eq_true (by omega : (k : Int) < (ns.length : Int))]
      walk_at "rd"
      refine i_ix_l hs (atI_nat (j := k) (v := .int ns[k]) (by rw [List.getElem?_map, List.getElem?_eq_getElem hk]; rfl)) ?_
      exact q _
    · rw [decide_eq_false (by omega : ¬ (k : Int) < (ns.length : Int))]
      walk_at "rd"
      exact q _
/-- a pot is made -/
def spPot : Sp := fun vs H Q _ => ∃ (c : Int) (k : Nat), vs = [.int c, .int (k : Nat)] ∧ k ≤ 1000 ∧ ∀ H' p, H p = none → Same H H' → Pot H' p → Q (.ref p) H'
theorem fm_lo (x : Int) : 0 ≤ x.fmod 2147483629 ∧ x.fmod 2147483629 < 2147483629 := ⟨Int.fmod_nonneg_of_pos x (by decide), Int.fmod_lt_of_pos x (by decide)⟩
theorem fm_lp (x : Int) : 0 ≤ x.fmod 2147483647 ∧ x.fmod 2147483647 < 2147483647 := ⟨Int.fmod_nonneg_of_pos x (by decide), Int.fmod_lt_of_pos x (by decide)⟩
theorem ok_pot (D : Df K mg "_law_pot" "_law_pot" s__law_pot ["cell", "salt"]) (B : NoB mg) : Cal P w K mg base CX0 "_law_pot" ["cell", "salt"] 1 spPot := by
  refine D.cal fun f fd F => F.ok sc__law_pot (fun vs H Q E h => ?_) (fun cdv A outer s H vs Q E hr h => ?_)
  · obtain ⟨_, _, rfl, _⟩ := h
    rfl
  · obtain ⟨c, k, rfl, hk, q⟩ := h
    refine ⟨_, (pss_cons (ps_if (pt_cmpR op_geU (pe_callB call_absU (by rfl) B.m_abs (by decide +kernel) (pa_cons (pv 0) pa_nil)) (pe_op op_powU pe_int pe_int) (nomark _)) (pss_one (ps_ret (pe_lst (pa_cons (pe_callB call_absU (by rfl) B.m_abs (by decide +kernel) (pa_cons (pv 0) pa_nil)) pa_nil)))) pss_nil)
      (pss_cons (ps_set (i := 2) sc__law_pot.nd rfl (.inl rfl) (pe_op op_modU (pe_op op_mulU (pe_op (op_addU K) (pe_op (op_addU K) (pe_op op_modU (pv 0) pe_int) (pe_op op_mulU pe_int (pv 1))) pe_int) pe_int) pe_int))
      (pss_cons (ps_set (i := 3) sc__law_pot.nd rfl (.inl rfl) pe_int)
      (pss_cons (ps_for PassesOwn.never rfl (pi_range1 (by rfl) B.m_range (pa_cons pe_int pa_nil)) (pg_name (i := 4) sc__law_pot.nd rfl (.inl rfl)) (pss_cons (ps_set (i := 2) sc__law_pot.nd rfl (.inl rfl) (pe_op op_modU (pe_op (op_addU K) (pe_op (op_addU K) (pe_op op_mulU (pv 2) (pv 2)) (pe_op op_mulU pe_int (pv 4))) pe_int) pe_int))
      (pss_one (ps_set (i := 3) sc__law_pot.nd rfl (.inl rfl) (pe_op (op_addU K) (pe_op op_mulU (pv 3) pe_int) (pv 2))))))
      (pss_one (ps_ret (pe_lst (pa_cons (pv 3) pa_nil)))))))), ?_⟩
    walk_at "rd"
    refine i_pow ⟨by decide, by decide, by decide⟩ ?_
    walk_at "rd"
    refine ite2 (fun _ => ?_) fun _ => ?_
    · walk_at "rd"
      refine i_new_l (by show 1 ≤ sizeLine; decide) fun p H1 n1 s1 e1 => ?_
      exact q H1 p n1 s1 ⟨_, e1⟩
    · walk_at "rd"
      refine i_mod (by decide) ?_
      walk_at "rd"
      refine i_mul_l (by decide) ?_
      walk_at "rd"
      refine i_mul_r (by decide) ?_
      walk_at "rd"
      refine i_mod (by decide) ?_
      walk_at "rd"
      have h0 := fm_lp ((c.fmod 2147483647 + 7919 * (k : Int) + 11) * 48271)
      generalize ((c.fmod 2147483647 + 7919 * (k : Int) + 11) * 48271).fmod 2147483647 = st at h0 ⊢
      refine f_range (n := 9) (by decide) (fun i σ H1 => ∃ (st big : Int) (y : Option V), 0 ≤ st ∧ st < 2147483647 ∧ σ = [some (.int c), some (.int (k : Nat)), some (.int st), some (.int big), y] ∧ H1 = H) ?_ ?_ ?_ rfl
      · exact ⟨st, 0, none, h0.1, h0.2, rfl, rfl⟩
      · rintro i σ H1 hi ⟨st, big, y, h1, h2, rfl, rfl⟩
        walk_at "rd"
        refine i_mul_l (by omega) ?_
        walk_at "rd"
        refine i_mul_l (by decide) ?_
        walk_at "rd"
        refine i_mod (by decide) ?_
        walk_at "rd"
        refine i_mul_r (by decide) ?_
        walk_at "rd"
        have h3 := fm_lo (st * st + 40692 * (i : Int) + 3)
        exact ⟨_, _, _, h3.1, by omega, rfl, rfl⟩
      · rintro σ H1 ⟨st, big, y, h1, h2, rfl, rfl⟩
        walk_at "rd"
        refine i_new_l (by show 1 ≤ sizeLine; decide) fun p H1 n1 s1 e1 => ?_
        exact q H1 p n1 s1 ⟨_, e1⟩
/-- a digit is drawn -/
def spTake : Sp := fun vs H Q _ => ∃ (p : Addr) (m : Nat), vs = [.ref p, .int (m : Nat)] ∧ Pot H p ∧ 0 < m ∧ m ≤ 1000 ∧ ∀ H' (d : Nat), Bt p H H' → Pot H' p → d < m → Q (.int (d : Nat)) H'
theorem ok_take (D : Df K mg "_law_take" "_law_take" s__law_take ["pot", "many"]) : Cal P w K mg base CX0 "_law_take" ["pot", "many"] 1 spTake := by
  refine D.cal fun f fd F => F.ok sc__law_take (fun vs H Q E h => ?_) (fun cdv A outer s H vs Q E hr h => ?_)
  · obtain ⟨_, _, rfl, _⟩ := h
    rfl
  · obtain ⟨p, m, rfl, ⟨n, hp⟩, hm, hm2, q⟩ := h
    refine ⟨_, (pss_cons (ps_set (i := 2) sc__law_take.nd rfl (.inl rfl) (pe_op op_modU (pe_ix (ix_U K) (pv 0) pe_int (fun _ _ => rfl)) (pv 1)))
      (pss_cons (ps_asg (pe_op op_fdvU (pe_ix (ix_U K) (pv 0) pe_int (fun _ _ => rfl)) (pv 1)) (pg_sub (pv 0) pe_int set_list))
      (pss_one (ps_ret (pv 2))))), ?_⟩
    walk_at "rd"
    refine i_ix_l (.inl (.inl hp)) (atI_nat (j := 0) rfl) ?_
    walk_at "rd"
    refine i_mod (by omega) ?_
    walk_at "rd"
    refine i_ix_l (.inl (.inl hp)) (atI_nat (j := 0) rfl) ?_
    walk_at "rd"
    refine i_fdv ⟨by omega, by omega⟩ ?_
    walk_at "rd"
    refine i_setL hp (n := 0) rfl fun H1 b1 e1 => ?_
    walk_at "rd"
    obtain ⟨d, hd, hdm⟩ := dig n hm
    rw [hd]
    exact q H1 d b1 ⟨_, e1⟩ hdm
/-- a word: a name or another text -/
def spWord : Sp := fun vs H Q _ => ∃ (p a : Addr) (ns : List Str), vs = [.ref p, .ref a] ∧ Pot H p ∧ Nms H a ns ∧ ∀ H' z, Bt p H H' → Pot H' p → txOk 4 z → Q (.str z) H'
theorem ok_word (D : Df K mg "_law_word" "_law_word" s__law_word ["pot", "names"]) (B : NoB mg) (C__law_take : Cal P w K mg base CX0 "_law_take" ["pot", "many"] 1 spTake) : Cal P w K mg base CX0 "_law_word" ["pot", "names"] 2 spWord := by
  refine D.cal fun f fd F => F.ok sc__law_word (fun vs H Q E h => ?_) (fun cdv A outer s H vs Q E hr h => ?_)
  · obtain ⟨_, _, _, rfl, _⟩ := h
    rfl
  · obtain ⟨p, a, ns, rfl, hp, hn, q⟩ := h
    refine ⟨_, (pss_cons (ps_set (i := 2) sc__law_word.nd rfl (.inl rfl) (pe_op (op_addU K) (pv 1) (pe_lst (pa_cons pe_str (pa_cons pe_str (pa_cons pe_str (pa_cons pe_str (pa_cons pe_str pa_nil))))))))
      (pss_one (ps_ret (pe_ix (ix_U K) (pv 2) (pe_cal C__law_take hr (by rfl) (pa_cons (pv 0) (pa_cons (pe_callB (call_lenU K) (by rfl) B.m_len (by decide +kernel) (pa_cons (pv 2) pa_nil)) pa_nil))) (fun _ _ => rfl))))), ?_⟩
    have hle := hn.le
    walk_at "rd"
    refine i_new_l (by show 5 ≤ sizeLine; decide) fun l1 H1 n1 s1 e1 => ?_
    refine i_add_l (s1 _ _ hn.at') e1 (szl (by rw [List.length_map]; show _ + 5 ≤ _; omega)) fun l2 H2 n2 s2 e2 => ?_
    rw [show [V.str (Str.ofString ""), V.str (Str.ofString "x"), V.str (Str.ofString "b1 g"), V.str (Str.ofString "yes"), V.str (Str.ofString "c/d")] = ([Str.ofString "", Str.ofString "x", Str.ofString "b1 g", Str.ofString "yes", Str.ofString "c/d"] : List Str).map V.str from rfl, ← List.map_append] at e2
    have hall : ∀ z ∈ (ns ++ [Str.ofString "", Str.ofString "x", Str.ofString "b1 g", Str.ofString "yes", Str.ofString "c/d"]), txOk 4 z := by
      intro z hz
      rcases List.mem_append.mp hz with hz | hz
      · have := hn.ok z hz
        exact name_tx this.1 (by have := this.2.1; omega) this.2.2
      · simp only [List.mem_cons, List.not_mem_nil, or_false] at hz
        rcases hz with rfl | rfl | rfl | rfl | rfl <;> exact ⟨by decide, by decide +kernel⟩
    have hlen : (ns ++ [Str.ofString "", Str.ofString "x", Str.ofString "b1 g", Str.ofString "yes", Str.ofString "c/d"]).length = ns.length + 5 := by rw [List.length_append]; rfl
    generalize (ns ++ [Str.ofString "", Str.ofString "x", Str.ofString "b1 g", Str.ofString "yes", Str.ofString "c/d"]) = ws at e2 hall hlen
    walk_at "rd"
    refine i_len_l (.inl (.inl e2)) ?_
    walk_at "rd"
    have hp2 : Pot H2 p := hp.same (s1.trans s2)
    refine ⟨p, ns.length + 5, by rw [List.length_map, hlen]; rfl, hp2, by omega, by omega, fun H3 d b3 p3 hd => ?_⟩
    have hne : l2 ≠ p := by
      obtain ⟨k, e⟩ := hp
      exact fun z => (ne_of_none (s1 _ _ e) n2) z.symm
    have hdl : d < ws.length := by omega
    refine i_ix_l (.inl (.inl (b3 _ _ hne e2))) (atI_nat (j := d) (v := .str ws[d]) (by rw [List.getElem?_map, List.getElem?_eq_getElem hdl]; rfl)) ?_
    exact q H3 _ ((Bt.same (s1.trans s2)).trans b3) p3 (hall _ (List.getElem_mem hdl))
end
end Aw

namespace Aw
open PySem PySem.Spec PyProof.Rows L2

local macro_rules | `(tactic| walk_at "rd1") => `(tactic| first
  | ((with_reducible apply i_var); exact rfl)
  | with_reducible refine i_c ?_
  | with_reducible refine i_op ?_
  | with_reducible refine i_un ?_
  | with_reducible refine i_test ?_
  | with_reducible refine i_tB ?_
  | with_reducible refine i_bl ?_
  | with_reducible refine i_and ?_
  | with_reducible refine i_or ?_
  | with_reducible refine i_not ?_
  | with_reducible refine i_andV ?_
  | with_reducible refine i_orV ?_
  | with_reducible refine i_notV ?_
  | with_reducible refine i_if ?_
  | with_reducible refine i_chain ?_
  | with_reducible refine i_nil ?_
  | with_reducible refine i_cons ?_
  | with_reducible refine i_tup ?_
  | with_reducible refine i_lst ?_
  | with_reducible refine i_cb ?_
  | with_reducible refine i_call ?_
  | with_reducible refine i_bm ?_
  | with_reducible refine i_m1 ?_
  | with_reducible refine i_m0 ?_
  | with_reducible refine i_exstr ?_
  | with_reducible refine i_sl ?_
  | with_reducible refine i_nopart ?_
  | with_reducible refine i_part ?_
  | with_reducible refine i_int ?_
  | with_reducible refine i_seq ?_
  | with_reducible refine i_next ?_
  | with_reducible refine i_asg ?_
  | with_reducible refine i_gname ?_
  | with_reducible refine i_ret ?_
  | with_reducible refine i_retN ?_
  | with_reducible refine i_drop ?_
  | with_reducible refine i_ifS ?_
  | with_reducible refine i_break ?_
  | with_reducible refine i_cont ?_
  | ((with_reducible apply i_aug); exact rfl)
  | with_reducible refine i_add_i ?_
  | with_reducible refine i_sub ?_
  | with_reducible refine i_neg ?_
  | with_reducible refine i_ipadd_i ?_
  | with_reducible refine i_ip ?_
  | with_reducible refine i_lt ?_
  | with_reducible refine i_le ?_
  | with_reducible refine i_gt ?_
  | with_reducible refine i_ge ?_
  | with_reducible refine i_lt_s ?_
  | with_reducible refine i_le_s ?_
  | with_reducible refine i_gt_s ?_
  | with_reducible refine i_ge_s ?_
  | with_reducible refine i_isN ?_
  | with_reducible refine i_notN ?_
  | with_reducible refine i_in_c ?_
  | with_reducible refine i_nin_c ?_
  | with_reducible refine i_gsub ?_
  | with_reducible refine i_gcons ?_
  | with_reducible refine i_gnil ?_
  | with_reducible refine i_iList ?_
  | with_reducible refine i_iTup ?_
  | with_reducible refine i_iStr ?_
  | with_reducible refine i_iRng1 ?_
  | with_reducible refine i_lc ?_
  | with_reducible refine i_for ?_
  | with_reducible refine i_yes ?_
  | with_reducible refine i_repl ?_
  | with_reducible refine i_meth ?_
  | with_reducible refine i_fld ?_
  | with_reducible refine i_sfld ?_
  | with_reducible refine i_din ?_
  | with_reducible refine i_dnin ?_
  | with_reducible refine i_dget ?_
  | with_reducible refine i_dput ?_
  | with_reducible refine i_joined ?_
  | with_reducible refine i_callS ?_
  | with_reducible refine i_xf ?_
  | with_reducible refine i_revL ?_
  | with_reducible refine i_items ?_
  | with_reducible refine i_stepL ?_
  | with_reducible refine i_make ?_
  | with_reducible refine i_fmt ?_
  | with_reducible refine i_jcons ?_
  | with_reducible refine i_jnil ?_
  | with_reducible refine i_iEnum ?_
  | with_reducible refine i_faug ?_
  | with_reducible refine i_dget2 ?_
  | with_reducible refine i_kin ?_
  | with_reducible refine i_kix ?_
  | with_reducible refine i_bm0 ?_
  | with_reducible refine i_meth ?_
  | with_reducible refine iteT ?_
  | with_reducible refine iteF ?_
  | with_reducible refine iteNT ?_
  | with_reducible refine iteNF ?_
  | ((with_reducible refine i_len_s ?_ ?_); (first | assumption | exact szl (by assumption)))
  | ((with_reducible refine i_sl_s ?_ ?_); (first | assumption | exact szl (by assumption)))
  | with_reducible refine i_int_b ?_
  | with_reducible refine i_abs ?_
  | with_reducible refine i_min2 ?_
  | with_reducible refine i_eq rfl ?_
  | with_reducible refine i_ne rfl ?_
  | with_reducible refine iteDR ?_
  | with_reducible refine iteRN ?_
  | with_reducible refine iteI1 ?_
  | with_reducible refine iteI2 ?_
  | with_reducible refine iteI3 ?_
  | with_reducible refine iteI4 ?_
  | with_reducible refine iteSN ?_
  | with_reducible refine iteNDR ?_
  | with_reducible refine iteNRN ?_
  | with_reducible refine iteNSN ?_
  | with_reducible refine iteST (by first | rfl | decide) ?_
  | with_reducible refine iteSF (by decide) ?_
  | with_reducible refine iteNST (by first | rfl | decide) ?_
  | with_reducible refine iteNSF (by decide) ?_)
local macro_rules | `(tactic| walk_at "rd") => `(tactic| repeat walk_at "rd1")

abbrev s__law_line : Stmt := topS 67
theorem sc__law_line : FnScope ["pot", "names", "many", "k", "words", "word", "one", "two", "three", "at", "j"] ["pot", "names", "many", "k"] (defScope s__law_line) := ⟨rfl, rfl, rfl, by decide +kernel, rfl, by decide +kernel, by decide +kernel⟩


section
variable {P : Program} {w : World} {K : PySem.W.Frag} {mg : Str → Option Value} {base : Heap}
def lawWords : List (List Nat) := [[97, 115, 107], [97, 115, 107], [97, 115, 107], [104, 97, 115], [110, 97, 109, 101, 115], [116, 101, 120, 116], [116, 101, 120, 116], [99, 111, 112, 121], [112, 117, 116], [112, 117, 116], [106, 111, 105, 110], [102, 105, 114, 115, 116], [102, 105, 114, 115, 116], [114, 101, 115, 116], [115, 105, 122, 101], [99, 117, 116], [103, 108, 117, 101], [108, 105, 107, 101], [110, 111, 110, 101], [114, 111, 119, 101, 100], [103, 111], [115, 97, 121], [102, 97, 117, 108, 116], [115, 101, 108, 102]]
theorem lawWords_split : Txt.split (Str.ofString "ask ask ask has names text text copy put put join first first rest size cut glue like none rowed" ++ Str.ofString " go say fault self") (Str.ofString " ") = lawWords.map S := by
  have e : Str.ofString "ask ask ask has names text text copy put put join first first rest size cut glue like none rowed" ++ Str.ofString " go say fault self" = S (inter [32] lawWords) := S_ext (by decide +kernel)
  rw [e]
  exact split_S (by decide +kernel) (by simp [lawWords])
theorem lawWords_ok : ∀ z ∈ lawWords.map S, txOk 5 z := by
  intro z hz
  obtain ⟨l, hl, rfl⟩ := List.mem_map.mp hz
  have : ∀ l ∈ lawWords, l.length ≤ 5 ∧ l.all plainQ = true := by decide +kernel
  exact this l hl
theorem abcdh_ok : ∀ c ∈ (Str.ofString "abcdh").cps.toList, txOk 1 ⟨#[c]⟩ := by
  have : ∀ c ∈ (Str.ofString "abcdh").cps.toList, plainQ c = true := by decide +kernel
  intro c hc
  refine ⟨Nat.le_refl _, ?_⟩
  show [c].all plainQ = true
  rw [List.all_cons, this c hc]; rfl
theorem num_ok : ∀ n : Nat, n ≤ 12 → txOk 2 (Str.ofString (toString (n : Int))) := by
  have : ∀ n : Fin 13, (Str.ofString (toString ((n : Nat) : Int))).length ≤ 2 ∧ (Str.ofString (toString ((n : Nat) : Int))).cps.toList.all plainQ = true := by decide +kernel
  intro n hn
  exact this ⟨n, by omega⟩
theorem lit_ok {z : Str} (n : Nat) (h : (decide (z.length ≤ n) && z.cps.toList.all plainQ) = true) : txOk n z := by
  rw [Bool.and_eq_true, decide_eq_true_eq] at h
  exact h
def spLine : Sp := fun vs H Q _ => ∃ (p a : Addr) (ns : List Str) (m k : Nat), vs = [.ref p, .ref a, .int (m : Nat), .int (k : Nat)] ∧ Pot H p ∧ Nms H a ns ∧ 1 ≤ m ∧ m ≤ 12 ∧ k ≤ 8 ∧ ∀ H' z, Bt p H H' → Pot H' p → txOk 24 z → Q (.str z) H'
theorem ok_line (D : Df K mg "_law_line" "_law_line" s__law_line ["pot", "names", "many", "k"]) (B : NoB mg) (C__law_take : Cal P w K mg base CX0 "_law_take" ["pot", "many"] 1 spTake) (C__law_word : Cal P w K mg base CX0 "_law_word" ["pot", "names"] 2 spWord) :
    Cal P w K mg base CX0 "_law_line" ["pot", "names", "many", "k"] 3 spLine := by
  refine D.cal fun f fd F => F.ok sc__law_line (fun vs H Q E h => ?_) (fun cdv A outer s H vs Q E hr h => ?_)
  · obtain ⟨_, _, _, _, _, rfl, _⟩ := h
    rfl
  · obtain ⟨p, a, ns, m, k, rfl, hp, hn, hm1, hm, hk, q⟩ := h
    refine ⟨_, (pss_cons (ps_set (i := 4) sc__law_line.nd rfl (.inl rfl) pe_str)
      (pss_cons (ps_set (i := 5) sc__law_line.nd rfl (.inl rfl) (pe_ix (ix_U K) (pe_splitU (pe_op (op_addU K) (pv 4) pe_str) pe_str) (pe_cal C__law_take hr (by rfl) (pa_cons (pv 0) (pa_cons pe_int pa_nil))) (fun _ _ => rfl)))
      (pss_cons (ps_asg (pe_lc (own := [("j", 10)]) (by rfl) sc__law_line.nd (pi_range1 (by rfl) B.m_range (pa_cons pe_int pa_nil)) (blkOk_by (own := [("j", 10)]) (N := ["pot", "names", "many", "k", "words", "word", "one", "two", "three", "at", "j"]) (sc := defScope s__law_line) (by decide +kernel)) (fun _ _ _ _ _ => pg_name (i := 10) sc__law_line.nd rfl (Or.inl rfl)) (fun _ _ _ _ _ => pts_nil) (fun _ _ _ _ _ => (pe_ix (ix_U K) pe_str (pe_cal C__law_take hr (by rfl) (pa_cons (pv 0) (pa_cons pe_int pa_nil))) (fun _ _ => rfl)))) (pg_unlU K (by rfl) (pgs_cons (pg_name (i := 6) sc__law_line.nd rfl (.inl rfl)) (pgs_cons (pg_name (i := 7) sc__law_line.nd rfl (.inl rfl)) (pgs_cons (pg_name (i := 8) sc__law_line.nd rfl (.inl rfl)) pgs_nil)))))
      (pss_cons (ps_set (i := 9) sc__law_line.nd rfl (.inl rfl) (pe_callTy call_strU (by rfl) B.m_str (by decide +kernel) (pa_cons (pe_callB (call_minU rfl) (by rfl) B.m_min (by decide +kernel) (pa_cons (pv 2) (pa_cons (pe_op (op_addU K) (pe_op (op_addU K) (pv 3) pe_int) (pe_cal C__law_take hr (by rfl) (pa_cons (pv 0) (pa_cons (pv 2) pa_nil)))) pa_nil))) pa_nil)))
      (pss_cons (ps_if (pt_cmpR (op_eqU K hr.units) (pv 5) pe_str (nomark _)) (pss_one (ps_ret (pe_op (op_addU K) (pe_op (op_addU K) (pe_op (op_addU K) pe_str (pv 6)) pe_str) (pe_cal C__law_word hr (by rfl) (pa_cons (pv 0) (pa_cons (pv 1) pa_nil)))))) pss_nil)
      (pss_cons (ps_if (pt_cmpR (op_inU K) (pv 5) (pe_lst (pa_cons pe_str (pa_cons pe_str pa_nil))) (by with_unfolding_all rfl)) (pss_one (ps_ret (pe_op (op_addU K) (pe_op (op_addU K) (pv 5) pe_str) (pv 6)))) pss_nil)
      (pss_cons (ps_if (pt_cmpR (op_eqU K hr.units) (pv 5) pe_str (nomark _)) (pss_one (ps_ret (pv 5))) pss_nil)
      (pss_cons (ps_if (pt_cmpR (op_eqU K hr.units) (pv 5) pe_str (nomark _)) (pss_one (ps_ret (pe_op (op_addU K) pe_str (pv 9)))) pss_nil)
      (pss_cons (ps_if (pt_cmpR (op_inU K) (pv 5) (pe_lst (pa_cons pe_str (pa_cons pe_str pa_nil))) (by with_unfolding_all rfl)) (pss_one (ps_ret (pe_joinU K pe_str (pe_lst (pa_cons (pv 5) (pa_cons (pv 6) (pa_cons (pv 9) pa_nil))))))) pss_nil)
      (pss_cons (ps_if (pt_cmpR (op_eqU K hr.units) (pv 5) pe_str (nomark _)) (pss_one (ps_ret (pe_joinU K pe_str (pe_lst (pa_cons (pv 5) (pa_cons (pv 6) (pa_cons (pv 7) (pa_cons (pv 9) pa_nil)))))))) pss_nil)
      (pss_cons (ps_if (pt_cmpR (op_inU K) (pv 5) (pe_lst (pa_cons pe_str (pa_cons pe_str pa_nil))) (by with_unfolding_all rfl)) (pss_one (ps_ret (pe_joinU K pe_str (pe_lst (pa_cons (pv 5) (pa_cons (pv 6) (pa_cons (pv 7) (pa_cons (pv 8) pa_nil)))))))) pss_nil)
      (pss_one (ps_ret (pe_joinU K pe_str (pe_lst (pa_cons (pv 5) (pa_cons (pv 6) (pa_cons (pv 7) pa_nil)))))))))))))))))), ?_⟩
    walk_at "rd"
    refine i_add_s (by decide) ?_
    walk_at "rd"
    refine i_split (by decide) (by decide) fun l1 H1 n1 s1 e1 => ?_
    rw [lawWords_split] at e1
    walk_at "rd"
    refine ⟨p, 24, rfl, hp.same s1, by decide, by decide, fun H2 d b2 p2 hd => ?_⟩
    have b02 : Bt p H H2 := (Bt.same s1).trans b2
    have hne : l1 ≠ p := fun z => by
      obtain ⟨k, e⟩ := hp
      rw [z] at n1; rw [n1] at e; cases e
    have hl : (lawWords.map S).length = 24 := by decide +kernel
    have hw := lawWords_ok _ (List.getElem_mem (l := lawWords.map S) (n := d) (by omega))
    have hix : (lawWords.map S)[d]? = some (lawWords.map S)[d] := List.getElem?_eq_getElem (by omega)
    generalize (lawWords.map S)[d] = word at hw hix
    refine i_ix_l (.inl (.inl (b2 _ _ hne e1))) (atI_nat (j := d) (v := .str word) (by rw [List.getElem?_map, hix]; rfl)) ?_
    walk_at "rd"
    refine c_range (n := 3) (by decide) (fun D i acc H3 => Bt p H H3 ∧ Pot H3 p ∧ acc.length = i ∧ ∀ x ∈ acc, ∃ z, x = .str z ∧ txOk 1 z) ?_ ?_ ?_ rfl
    · exact fun D H3 _ s3 _ => ⟨b02.trans (.same s3), p2.same s3, rfl, by simp⟩
    · rintro D i acc H3 hD hi hl hi2 ha ⟨b3, p3, hal, hac⟩
      walk_at "rd"
      refine ⟨rfl, ?_⟩
      walk_at "rd"
      refine ⟨p, 5, rfl, p3, by decide, by decide, fun H4 d2 b4 p4 hd2 => ?_⟩
      have hc : (Str.ofString "abcdh").cps.toList[d2]? = some ((Str.ofString "abcdh").cps.toList[d2]'(by exact hd2)) := List.getElem?_eq_getElem _
      have hco := abcdh_ok _ (List.getElem_mem (l := (Str.ofString "abcdh").cps.toList) (n := d2) hd2)
      generalize ((Str.ofString "abcdh").cps.toList[d2]'(by exact hd2)) = c at hc hco
      refine i_ix_s (by decide) (atI_nat hc) ?_
      have hpD : p ≠ D := p2.ne hD
      refine i_ck (b4 _ _ (Ne.symm hpD) ha) hl hi2 fun H5 b5 e5 => ⟨(b3.trans b4).but (none_bt b02 hD (Ne.symm hpD)) b5, p4.but b5 hpD, by rw [List.length_append, hal]; rfl, ?_⟩
      intro x hx
      rcases List.mem_append.mp hx with hx | hx
      · exact hac x hx
      · rw [List.mem_singleton.mp hx]
        exact ⟨_, rfl, hco⟩
    · rintro D acc H3 hD hl ha ⟨b3, p3, hal, hac⟩
      obtain ⟨x1, x2, x3, rfl⟩ : ∃ x1 x2 x3, acc = [x1, x2, x3] := by
        match acc, hal with
        | [x1, x2, x3], _ => exact ⟨x1, x2, x3, rfl⟩
      obtain ⟨z1, rfl, t1⟩ := hac x1 (by simp)
      obtain ⟨z2, rfl, t2⟩ := hac x2 (by simp)
      obtain ⟨z3, rfl, t3⟩ := hac x3 (by simp)
      refine i_unl (.inl (.inl ha)) rfl ?_
      walk_at "rd"
      refine ⟨p, m, rfl, p3, by omega, by omega, fun H4 d4 b4 p4 hd4 => ?_⟩
      walk_at "rd"
      have hv : ∃ v : Nat, v ≤ 12 ∧ (if (k : Int) + 5 + (d4 : Int) < (m : Int) then (k : Int) + 5 + (d4 : Int) else (m : Int)) = (v : Nat) := by
        by_cases hc : (k : Int) + 5 + (d4 : Int) < (m : Int)
        · exact ⟨k + 5 + d4, by omega, by rw [if_pos hc]; omega⟩
        · exact ⟨m, hm, by rw [if_neg hc]⟩
      obtain ⟨v, hv12, hv⟩ := hv
      rw [hv]
      refine i_str_i (by
        have : v.log2 ≤ v := Nat.log2_le_self v
        show (v : Int).natAbs.log2 < 1920
        rw [Int.natAbs_natCast]
        omega) ?_
      have hat := num_ok v hv12
      have b04 := b3.trans b4
      have hn4 : Nms H4 a ns := hn.bt hp b04
      walk_at "rd"
      refine ite2 (fun _ => ?_) fun _ => ?_
      · walk_at "rd"
        have o1 := (lit_ok (z := Str.ofString "text ") 5 (by decide +kernel)).app t1
        refine i_add_s (szl (by have := t1.1; show 5 + _ ≤ _; omega)) ?_
        walk_at "rd"
        have o2 := o1.app (lit_ok (z := Str.ofString " ") 1 (by decide +kernel))
        refine i_add_s (szl (by have := o1.1; show _ + 1 ≤ _; omega)) ?_
        walk_at "rd"
        refine ⟨p, a, ns, rfl, p4, hn4, fun H5 z b5 p5 hz => ?_⟩
        refine i_add_s (szl (by have := o2.1; have := hz.1; omega)) ?_
        exact q H5 _ (b04.trans b5) p5 ((o2.app hz).mono (by decide))
      · walk_at "rd"
        refine i_new_l (by show 2 ≤ sizeLine; decide) fun l5 H5 n5 s5 e5 => ?_
        refine i_in_l (.inl (.inl e5)) rfl rfl ?_
        walk_at "rd"
        have p5 := p4.same s5
        have b05 := b04.trans (.same s5)
        refine ite2 (fun _ => ?_) fun _ => ?_
        · walk_at "rd"
          have o1 := hw.app (lit_ok (z := Str.ofString " ") 1 (by decide +kernel))
          refine i_add_s (szl (by have := hw.1; show _ + 1 ≤ _; omega)) ?_
          walk_at "rd"
          refine i_add_s (szl (by have := o1.1; have := t1.1; omega)) ?_
          exact q H5 _ b05 p5 ((o1.app t1).mono (by decide))
        · walk_at "rd"
          refine ite2 (fun _ => ?_) fun _ => ?_
          · walk_at "rd"
            exact q H5 _ b05 p5 (hw.mono (by decide))
          · walk_at "rd"
            refine ite2 (fun _ => ?_) fun _ => ?_
            · walk_at "rd"
              refine i_add_s (szl (by have := hat.1; show 3 + _ ≤ _; omega)) ?_
              exact q H5 _ b05 p5 (((lit_ok (z := Str.ofString "go ") 3 (by decide +kernel)).app hat).mono (by decide))
            · have fin : ∀ (ys : List Str) (R : VK) {H6 H7 : Hp} {j : Addr}, (∀ y ∈ ys, txOk 5 y) → ys.length ≤ 4 → Bt p H H6 → Pot H6 p → H6 j = some (.lst (ys.map V.str)) → (∀ z, txOk 24 z → R (.str z) H6) → rJoin K (.str (Str.ofString " ")) [.ref j] H6 R := by
                intro ys R H6 H7 j hy hl b6 p6 e6 k6
                have hj := txOk.join hy (lit_ok (z := Str.ofString " ") 1 (by decide +kernel))
                refine i_join (.inl (.inl (.inl e6))) ?_ (k6 _ (hj.mono (by omega)))
                have hs : (ys.map (·.length)).sum ≤ ys.length * 5 := by
                  clear hj k6 e6 hl
                  induction ys with
                  | nil => simp
                  | cons y r ih =>
                    have := (hy y (List.mem_cons_self ..)).1
                    have := ih fun w hw => hy w (List.mem_cons_of_mem _ hw)
                    rw [List.map_cons, List.sum_cons, List.length_cons, Nat.succ_mul]
                    omega
                show _ + _ * 1 ≤ _
                omega
              have t1' : txOk 5 z1 := t1.mono (by decide)
              have t2' : txOk 5 z2 := t2.mono (by decide)
              have t3' : txOk 5 z3 := t3.mono (by decide)
              have hat' := hat.mono (show 2 ≤ 5 by decide)
              walk_at "rd"
              refine i_new_l (by show 2 ≤ sizeLine; decide) fun l6 H6 n6 s6 e6 => ?_
              refine i_in_l (.inl (.inl e6)) rfl rfl ?_
              walk_at "rd"
              have p6 := p5.same s6
              have b06 := b05.trans (.same s6)
              refine ite2 (fun _ => ?_) fun _ => ?_
              · walk_at "rd"
                refine i_new_l (by show 3 ≤ sizeLine; decide) fun l7 H7 n7 s7 e7 => ?_
                refine fin (H7 := H7) [word, z1, _] _ ?_ (by simp) (b06.trans (.same s7)) (p6.same s7) e7 fun z hz => q H7 z (b06.trans (.same s7)) (p6.same s7) hz
                intro y hy
                simp only [List.mem_cons, List.not_mem_nil, or_false] at hy
                rcases hy with rfl | rfl | rfl
                · exact hw
                · exact t1'
                · exact hat'
              · walk_at "rd"
                refine ite2 (fun _ => ?_) fun _ => ?_
                · walk_at "rd"
                  refine i_new_l (by show 4 ≤ sizeLine; decide) fun l7 H7 n7 s7 e7 => ?_
                  refine fin (H7 := H7) [word, z1, z2, _] _ ?_ (by simp) (b06.trans (.same s7)) (p6.same s7) e7 fun z hz => q H7 z (b06.trans (.same s7)) (p6.same s7) hz
                  intro y hy
                  simp only [List.mem_cons, List.not_mem_nil, or_false] at hy
                  rcases hy with rfl | rfl | rfl | rfl
                  · exact hw
                  · exact t1'
                  · exact t2'
                  · exact hat'
                · walk_at "rd"
                  refine i_new_l (by show 2 ≤ sizeLine; decide) fun l7 H7 n7 s7 e7 => ?_
                  refine i_in_l (.inl (.inl e7)) rfl rfl ?_
                  walk_at "rd"
                  have p7 := p6.same s7
                  have b07 := b06.trans (.same s7)
                  refine ite2 (fun _ => ?_) fun _ => ?_
                  · walk_at "rd"
                    refine i_new_l (by show 4 ≤ sizeLine; decide) fun l8 H8 n8 s8 e8 => ?_
                    refine fin (H7 := H8) [word, z1, z2, z3] _ ?_ (by simp) (b07.trans (.same s8)) (p7.same s8) e8 fun z hz => q H8 z (b07.trans (.same s8)) (p7.same s8) hz
                    intro y hy
                    simp only [List.mem_cons, List.not_mem_nil, or_false] at hy
                    rcases hy with rfl | rfl | rfl | rfl
                    · exact hw
                    · exact t1'
                    · exact t2'
                    · exact t3'
                  · walk_at "rd"
                    refine i_new_l (by show 3 ≤ sizeLine; decide) fun l8 H8 n8 s8 e8 => ?_
                    refine fin (H7 := H8) [word, z1, z2] _ ?_ (by simp) (b07.trans (.same s8)) (p7.same s8) e8 fun z hz => q H8 z (b07.trans (.same s8)) (p7.same s8) hz
                    intro y hy
                    simp only [List.mem_cons, List.not_mem_nil, or_false] at hy
                    rcases hy with rfl | rfl | rfl
                    · exact hw
                    · exact t1'
                    · exact t2'
end
end Aw

namespace Aw
open PySem PySem.Spec PyProof.Rows L2

local macro_rules | `(tactic| walk_at "rd1") => `(tactic| first
  | ((with_reducible apply i_var); exact rfl)
  | with_reducible refine i_c ?_
  | with_reducible refine i_op ?_
  | with_reducible refine i_un ?_
  | with_reducible refine i_test ?_
  | with_reducible refine i_tB ?_
  | with_reducible refine i_bl ?_
  | with_reducible refine i_and ?_
  | with_reducible refine i_or ?_
  | with_reducible refine i_not ?_
  | with_reducible refine i_andV ?_
  | with_reducible refine i_orV ?_
  | with_reducible refine i_notV ?_
  | with_reducible refine i_if ?_
  | with_reducible refine i_chain ?_
  | with_reducible refine i_nil ?_
  | with_reducible refine i_cons ?_
  | with_reducible refine i_tup ?_
  | with_reducible refine i_lst ?_
  | with_reducible refine i_cb ?_
  | with_reducible refine i_call ?_
  | with_reducible refine i_bm ?_
  | with_reducible refine i_m1 ?_
  | with_reducible refine i_m0 ?_
  | with_reducible refine i_exstr ?_
  | with_reducible refine i_sl ?_
  | with_reducible refine i_nopart ?_
  | with_reducible refine i_part ?_
  | with_reducible refine i_int ?_
  | with_reducible refine i_seq ?_
  | with_reducible refine i_next ?_
  | with_reducible refine i_asg ?_
  | with_reducible refine i_gname ?_
  | with_reducible refine i_ret ?_
  | with_reducible refine i_retN ?_
  | with_reducible refine i_drop ?_
  | with_reducible refine i_ifS ?_
  | with_reducible refine i_break ?_
  | with_reducible refine i_cont ?_
  | ((with_reducible apply i_aug); exact rfl)
  | with_reducible refine i_add_i ?_
  | with_reducible refine i_sub ?_
  | with_reducible refine i_neg ?_
  | with_reducible refine i_ipadd_i ?_
  | with_reducible refine i_ip ?_
  | with_reducible refine i_lt ?_
  | with_reducible refine i_le ?_
  | with_reducible refine i_gt ?_
  | with_reducible refine i_ge ?_
  | with_reducible refine i_lt_s ?_
  | with_reducible refine i_le_s ?_
  | with_reducible refine i_gt_s ?_
  | with_reducible refine i_ge_s ?_
  | with_reducible refine i_isN ?_
  | with_reducible refine i_notN ?_
  | with_reducible refine i_in_c ?_
  | with_reducible refine i_nin_c ?_
  | with_reducible refine i_gsub ?_
  | with_reducible refine i_gcons ?_
  | with_reducible refine i_gnil ?_
  | with_reducible refine i_iList ?_
  | with_reducible refine i_iTup ?_
  | with_reducible refine i_iStr ?_
  | with_reducible refine i_iRng1 ?_
  | with_reducible refine i_lc ?_
  | with_reducible refine i_for ?_
  | with_reducible refine i_yes ?_
  | with_reducible refine i_repl ?_
  | with_reducible refine i_meth ?_
  | with_reducible refine i_fld ?_
  | with_reducible refine i_sfld ?_
  | with_reducible refine i_din ?_
  | with_reducible refine i_dnin ?_
  | with_reducible refine i_dget ?_
  | with_reducible refine i_dput ?_
  | with_reducible refine i_joined ?_
  | with_reducible refine i_callS ?_
  | with_reducible refine i_xf ?_
  | with_reducible refine i_revL ?_
  | with_reducible refine i_items ?_
  | with_reducible refine i_stepL ?_
  | with_reducible refine i_make ?_
  | with_reducible refine i_fmt ?_
  | with_reducible refine i_jcons ?_
  | with_reducible refine i_jnil ?_
  | with_reducible refine i_iEnum ?_
  | with_reducible refine i_faug ?_
  | with_reducible refine i_dget2 ?_
  | with_reducible refine i_kin ?_
  | with_reducible refine i_kix ?_
  | with_reducible refine i_bm0 ?_
  | with_reducible refine i_meth ?_
  | with_reducible refine iteT ?_
  | with_reducible refine iteF ?_
  | with_reducible refine iteNT ?_
  | with_reducible refine iteNF ?_
  | ((with_reducible refine i_len_s ?_ ?_); (first | assumption | exact szl (by assumption)))
  | ((with_reducible refine i_sl_s ?_ ?_); (first | assumption | exact szl (by assumption)))
  | with_reducible refine i_int_b ?_
  | with_reducible refine i_abs ?_
  | with_reducible refine i_min2 ?_
  | with_reducible refine i_eq rfl ?_
  | with_reducible refine i_ne rfl ?_
  | with_reducible refine iteDR ?_
  | with_reducible refine iteRN ?_
  | with_reducible refine iteI1 ?_
  | with_reducible refine iteI2 ?_
  | with_reducible refine iteI3 ?_
  | with_reducible refine iteI4 ?_
  | with_reducible refine iteSN ?_
  | with_reducible refine iteNDR ?_
  | with_reducible refine iteNRN ?_
  | with_reducible refine iteNSN ?_
  | with_reducible refine iteST (by first | rfl | decide) ?_
  | with_reducible refine iteSF (by decide) ?_
  | with_reducible refine iteNST (by first | rfl | decide) ?_
  | with_reducible refine iteNSF (by decide) ?_)
local macro_rules | `(tactic| walk_at "rd") => `(tactic| repeat walk_at "rd1")

abbrev s__law_rule : Stmt := topS 68
theorem sc__law_rule : FnScope ["pot", "names", "body", "many", "lines", "k"] ["pot", "names"] (defScope s__law_rule) := ⟨rfl, rfl, rfl, by decide +kernel, rfl, by decide +kernel, by decide +kernel⟩
abbrev s__law_maker : Stmt := topS 69
theorem sc__law_maker : FnScope ["pot", "names", "asked", "lines"] ["pot", "names"] (defScope s__law_maker) := ⟨rfl, rfl, rfl, by decide +kernel, rfl, by decide +kernel, by decide +kernel⟩
abbrev s__law_leaf : Stmt := topS 70
theorem sc__law_leaf : FnScope ["pot", "names", "kind", "k"] ["pot", "names"] (defScope s__law_leaf) := ⟨rfl, rfl, rfl, by decide +kernel, rfl, by decide +kernel, by decide +kernel⟩
abbrev s__law_source : Stmt := topS 71
theorem sc__law_source : FnScope ["pot", "names", "kind"] ["pot", "names"] (defScope s__law_source) := ⟨rfl, rfl, rfl, by decide +kernel, rfl, by decide +kernel, by decide +kernel⟩
section
variable {P : Program} {w : World} {K : PySem.W.Frag} {mg : Str → Option Value} {base : Heap}
theorem strs_of {xs : List V} {R : Str → Prop} (h : ∀ x ∈ xs, ∃ z, x = .str z ∧ R z) : ∃ ys : List Str, xs = ys.map V.str ∧ ∀ y ∈ ys, R y := by
  induction xs with
  | nil => exact ⟨[], rfl, by simp⟩
  | cons x r ih =>
    obtain ⟨z, rfl, hz⟩ := h x (List.mem_cons_self ..)
    obtain ⟨ys, rfl, hy⟩ := ih fun w hw => h w (List.mem_cons_of_mem _ hw)
    refine ⟨z :: ys, rfl, fun y hm => ?_⟩
    rcases List.mem_cons.mp hm with rfl | hm
    · exact hz
    · exact hy y hm
theorem row_tx {ys : List Str} {n k : Nat} (h : ∀ y ∈ ys, txOk n y) (hn : n ≤ 300) (hk : ys.length ≤ k) (h40 : k ≤ 40) : GoodQ (.tuple (ys.map .str)) 2 (k * (n + 1) + 1) := by
  refine GoodQ.row (n := 1) (fun d hd => ?_) (by rw [List.length_map]; exact hk) h40
  obtain ⟨y, hy, rfl⟩ := List.mem_map.mp hd
  exact (h y hy).gd hn
/-- a tree, drawn -/
def spDrawn (K : PySem.W.Frag) (dp sz : Nat) : Sp := fun vs H Q _ => ∃ (p a : Addr) (ns : List Str), vs = [.ref p, .ref a] ∧ Pot H p ∧ Nms H a ns ∧ ∀ H' v d, Bt p H H' → Pot H' p → Dt K H' d v → GoodQ d dp sz → Q v H'
theorem ok_rule (D : Df K mg "_law_rule" "_law_rule" s__law_rule ["pot", "names"]) (B : NoB mg) (C__law_take : Cal P w K mg base CX0 "_law_take" ["pot", "many"] 1 spTake) (C__law_word : Cal P w K mg base CX0 "_law_word" ["pot", "names"] 2 spWord)
    (C__law_line : Cal P w K mg base CX0 "_law_line" ["pot", "names", "many", "k"] 3 spLine) : Cal P w K mg base CX0 "_law_rule" ["pot", "names"] 4 (spDrawn K 3 301) := by
  refine D.cal fun f fd F => F.ok sc__law_rule (fun vs H Q E h => ?_) (fun cdv A outer s H vs Q E hr h => ?_)
  · obtain ⟨_, _, _, rfl, _⟩ := h
    rfl
  · obtain ⟨p, a, ns, rfl, hp, hn, q⟩ := h
    refine ⟨_, (pss_cons (ps_set (i := 2) sc__law_rule.nd rfl (.inl rfl) (pe_op (op_addU K) pe_int (pe_cal C__law_take hr (by rfl) (pa_cons (pv 0) (pa_cons pe_int pa_nil)))))
      (pss_cons (ps_set (i := 3) sc__law_rule.nd rfl (.inr rfl) (pe_op (op_addU K) (pv 2) pe_int))
      (pss_cons (ps_set (i := 4) sc__law_rule.nd rfl (.inl rfl) (pe_lst (pa_cons (pe_op (op_addU K) pe_str (pe_cal C__law_word hr (by rfl) (pa_cons (pv 0) (pa_cons (pv 1) pa_nil)))) (pa_cons (pe_op (op_addU K) pe_str (pe_cal C__law_word hr (by rfl) (pa_cons (pv 0) (pa_cons (pv 1) pa_nil)))) (pa_cons pe_str pa_nil)))))
      (pss_cons (ps_expr (pe_bmU K PySem.F.plainAttrs_list PySem.F.slot_list_extend PySem.F.type_list_extend mt_extend (pv 4) (pa_cons (pe_lc (own := [("k", 5)]) (by rfl) sc__law_rule.nd (pi_range1 (by rfl) B.m_range (pa_cons (pv 2) pa_nil)) (blkOk_by (own := [("k", 5)]) (N := ["pot", "names", "body", "many", "lines", "k"]) (sc := defScope s__law_rule) (by decide +kernel)) (fun _ _ _ _ _ => pg_name (i := 5) sc__law_rule.nd rfl (Or.inl rfl)) (fun _ _ _ _ _ => pts_nil) (fun _ _ _ _ _ => (pe_cal C__law_line hr (by rfl) (pa_cons (pv 0) (pa_cons (pv 1) (pa_cons (pv 3) (pa_cons (pv 5) pa_nil))))))) pa_nil)))
      (pss_one (ps_ret (pe_callTy (call_tupU K) (by rfl) B.m_tuple (by decide +kernel) (pa_cons (pe_op (op_addU K) (pv 4) (pe_lst (pa_cons (pe_op (op_addU K) pe_str (pe_ix (ix_U K) pe_str (pe_cal C__law_take hr (by rfl) (pa_cons (pv 0) (pa_cons pe_int pa_nil))) (fun _ _ => rfl))) pa_nil))) pa_nil)))))))), ?_⟩
    walk_at "rd"
    refine ⟨p, 8, rfl, hp, by decide, by decide, fun H1 d b1 p1 hd => ?_⟩
    walk_at "rd"
    refine ⟨p, a, ns, rfl, p1, hn.bt hp b1, fun H2 z1 b2 p2 hz1 => ?_⟩
    have t0 := lit_ok (z := Str.ofString "text a ") 7 (by decide +kernel)
    refine i_add_s (szl (by have := hz1.1; show 7 + _ ≤ _; omega)) ?_
    walk_at "rd"
    have b02 := b1.trans b2
    refine ⟨p, a, ns, rfl, p2, hn.bt hp b02, fun H3 z2 b3 p3 hz2 => ?_⟩
    have t1 := lit_ok (z := Str.ofString "text b ") 7 (by decide +kernel)
    refine i_add_s (szl (by have := hz2.1; show 7 + _ ≤ _; omega)) ?_
    walk_at "rd"
    have b03 := b02.trans b3
    refine i_new_l (by show 3 ≤ sizeLine; decide) fun l H4 n4 s4 e4 => ?_
    have o1 := (t0.app hz1).mono (show 7 + 4 ≤ 24 by decide)
    have o2 := (t1.app hz2).mono (show 7 + 4 ≤ 24 by decide)
    generalize (Str.ofString "text a " ++ z1) = w1 at o1 e4
    generalize (Str.ofString "text b " ++ z2) = w2 at o2 e4
    have p4 := p3.same s4
    have b04 := b03.trans (.same s4)
    have hn4 := hn.bt hp b04
    have hlp : l ≠ p := by
      obtain ⟨k, e⟩ := p3
      exact fun z => (ne_of_none e n4) z.symm
    walk_at "rd"
    refine i_tyl e4 ?_
    walk_at "rd"
    refine c_range (n := 1 + d) (szlt (by omega)) (fun D i acc H5 => Bt p H H5 ∧ Pot H5 p ∧ H5 l = some (.lst [.str w1, .str w2, .str (Str.ofString "row h")]) ∧ ∀ x ∈ acc, ∃ z, x = .str z ∧ txOk 24 z) ?_ ?_ ?_ (by omega)
    · exact fun D H5 _ s5 _ => ⟨b04.trans (.same s5), p4.same s5, s5 _ _ e4, by simp⟩
    · rintro D i acc H5 hD hi hl hi2 ha ⟨b5, p5, e5, hac⟩
      walk_at "rd"
      refine ⟨rfl, ?_⟩
      walk_at "rd"
      have hlD : l ≠ D := ne_of_none e4 hD
      have haD : a ≠ D := ne_of_none hn4.at' hD
      have hpD : p ≠ D := p4.ne hD
      refine ⟨p, a, ns, 1 + d + 4, i, ?_, p5, hn.bt hp b5, by omega, by omega, by omega, fun H6 z b6 p6 hz => ?_⟩
      · have e : ((1 : Int) + (d : Int) + 4) = ((1 + d + 4 : Nat) : Int) := by omega
        rw [e]
        rfl
      refine i_ck (b6 _ _ (Ne.symm hpD) ha) hl hi2 fun H7 b7 e7 => ⟨(b5.trans b6).but (none_bt b04 hD (Ne.symm hpD)) b7, p6.but b7 hpD, b7 _ _ hlD (b6 _ _ hlp e5), ?_⟩
      intro x hx
      rcases List.mem_append.mp hx with hx | hx
      · exact hac x hx
      · rw [List.mem_singleton.mp hx]
        exact ⟨_, rfl, hz⟩
    · rintro D acc H5 hD hl ha ⟨b5, p5, e5, hac⟩
      walk_at "rd"
      obtain ⟨ys, rfl, hys⟩ := strs_of hac
      rw [List.length_map] at hl
      have hlD : l ≠ D := ne_of_none e4 hD
      refine i_extend e5 ha (szl (by show 3 + _ ≤ _; rw [List.length_map]; omega)) fun H6 b6 e6 => ?_
      walk_at "rd"
      have b06 : Bt p H H6 := b5.but (none_bt b03 n4 hlp) b6
      have p6 := p5.but b6 (Ne.symm hlp)
      refine ⟨p, 5, rfl, p6, by decide, by decide, fun H7 d2 b7 p7 hd2 => ?_⟩
      have hc : (Str.ofString "abcdh").cps.toList[d2]? = some ((Str.ofString "abcdh").cps.toList[d2]'(by exact hd2)) := List.getElem?_eq_getElem _
      have hco := abcdh_ok _ (List.getElem_mem (l := (Str.ofString "abcdh").cps.toList) (n := d2) hd2)
      generalize ((Str.ofString "abcdh").cps.toList[d2]'(by exact hd2)) = c at hc hco
      refine i_ix_s (by decide) (atI_nat hc) ?_
      refine i_add_s (by show 4 + 1 ≤ _; decide) ?_
      walk_at "rd"
      have o3 := ((lit_ok (z := Str.ofString "say ") 4 (by decide +kernel)).app hco).mono (show 4 + 1 ≤ 24 by decide)
      generalize (Str.ofString "say " ++ (⟨#[c]⟩ : Str)) = w3 at o3 ⊢
      refine i_new_l (by show 1 ≤ sizeLine; decide) fun l8 H8 n8 s8 e8 => ?_
      have e6' := s8 _ _ (b7 _ _ hlp e6)
      refine i_add_l e6' e8 (szl (by rw [List.length_append, List.length_map]; show 3 + _ + 1 ≤ _; omega)) fun l9 H9 n9 s9 e9 => ?_
      walk_at "rd"
      refine i_tupof_l (.inl (.inl e9)) fun t H10 n10 s10 e10 => ?_
      have hd' : ([V.str w1, .str w2, .str (Str.ofString "row h")] ++ ys.map V.str) ++ [V.str w3] = (([w1, w2, Str.ofString "row h"] ++ ys) ++ [w3]).map V.str := by simp
      rw [hd'] at e10
      refine q H10 (.ref t) (.tuple ((([w1, w2, Str.ofString "row h"] ++ ys) ++ [w3]).map .str)) ((b06.trans b7).trans (.same ((s8.trans s9).trans s10))) (p7.same ((s8.trans s9).trans s10)) (dt_tup (.inl (.inl e10)) dts_strs) ?_
      refine (row_tx (n := 24) (k := 12) ?_ (by decide) ?_ (by decide)).mono (by decide) (by decide)
      · intro y hy
        simp only [List.mem_append, List.mem_cons, List.not_mem_nil, or_false] at hy
        rcases hy with ((rfl | rfl | rfl) | hy) | rfl
        · exact o1
        · exact o2
        · exact lit_ok 24 (by decide +kernel)
        · exact hys y hy
        · exact o3
      · rw [List.length_append, List.length_append]
        show 3 + _ + 1 ≤ 12
        omega
theorem ok_maker (D : Df K mg "_law_maker" "_law_maker" s__law_maker ["pot", "names"]) (B : NoB mg) (C__law_take : Cal P w K mg base CX0 "_law_take" ["pot", "many"] 1 spTake) : Cal P w K mg base CX0 "_law_maker" ["pot", "names"] 2 (spDrawn K 3 301) := by
  refine D.cal fun f fd F => F.ok sc__law_maker (fun vs H Q E h => ?_) (fun cdv A outer s H vs Q E hr h => ?_)
  · obtain ⟨_, _, _, rfl, _⟩ := h
    rfl
  · obtain ⟨p, a, ns, rfl, hp, hn, q⟩ := h
    refine ⟨_, (pss_cons (ps_set (i := 2) sc__law_maker.nd rfl (.inl rfl) (pe_ix (ix_U K) (pv 1) (pe_cal C__law_take hr (by rfl) (pa_cons (pv 0) (pa_cons (pe_callB (call_lenU K) (by rfl) B.m_len (by decide +kernel) (pa_cons (pv 1) pa_nil)) pa_nil))) (fun _ _ => rfl)))
      (pss_cons (ps_set (i := 3) sc__law_maker.nd rfl (.inl rfl) (pe_lst (pa_cons pe_str (pa_cons (pe_op (op_addU K) pe_str (pv 2)) (pa_cons pe_str (pa_cons pe_str (pa_cons pe_str (pa_cons pe_str pa_nil))))))))
      (pss_cons (ps_set (i := 3) sc__law_maker.nd rfl (.inl rfl) (pe_op (op_addU K) (pv 3) (pe_lst (pa_cons pe_str (pa_cons pe_str (pa_cons pe_str (pa_cons pe_str (pa_cons pe_str pa_nil))))))))
      (pss_one (ps_ret (pe_callTy (call_tupU K) (by rfl) B.m_tuple (by decide +kernel) (pa_cons (pv 3) pa_nil))))))), ?_⟩
    have h1 := hn.ne
    have h2 := hn.le
    walk_at "rd"
    refine i_len_l (.inl (.inl hn.at')) ?_
    walk_at "rd"
    refine ⟨p, ns.length, by rw [List.length_map]; rfl, hp, by omega, by omega, fun H1 d b1 p1 hd => ?_⟩
    have hn1 := hn.bt hp b1
    have hg := hn.ok _ (List.getElem_mem hd)
    refine i_ix_l (.inl (.inl hn1.at')) (atI_nat (j := d) (v := .str ns[d]) (by rw [List.getElem?_map, List.getElem?_eq_getElem hd]; rfl)) ?_
    walk_at "rd"
    generalize ns[d] = nm at hg ⊢
    have o0 := (lit_ok (z := Str.ofString "text b ") 7 (by decide +kernel)).app (name_tx hg.1 hg.2.1 hg.2.2)
    refine i_add_s (szl (by have := hg.2.1; show 7 + _ ≤ _; omega)) ?_
    walk_at "rd"
    refine i_new_l (by show 6 ≤ sizeLine; decide) fun l2 H2 n2 s2 e2 => ?_
    walk_at "rd"
    refine i_new_l (by show 5 ≤ sizeLine; decide) fun l3 H3 n3 s3 e3 => ?_
    refine i_add_l (s3 _ _ e2) e3 (by show 6 + 5 ≤ _; decide) fun l4 H4 n4 s4 e4 => ?_
    walk_at "rd"
    refine i_tupof_l (.inl (.inl e4)) fun t H5 n5 s5 e5 => ?_
    generalize (Str.ofString "text b " ++ nm) = wd at o0 e5
    refine q H5 (.ref t) (.tuple ([Str.ofString "row h", wd, Str.ofString "ask c b", Str.ofString "text a text d ", Str.ofString "join a c", Str.ofString "put h a", Str.ofString "text a ask e d", Str.ofString "put h a", Str.ofString "text a say e", Str.ofString "put h a", Str.ofString "say h"].map .str)) (b1.trans (.same ((s2.trans s3).trans (s4.trans s5)))) (p1.same ((s2.trans s3).trans (s4.trans s5))) (dt_tup (.inl (.inl e5)) dts_strs) ?_
    refine (row_tx (n := 24) (k := 12) ?_ (by decide) (by simp) (by decide)).mono (by decide) (by decide)
    intro y hy
    simp only [List.mem_cons, List.not_mem_nil, or_false] at hy
    rcases hy with rfl | rfl | rfl | rfl | rfl | rfl | rfl | rfl | rfl | rfl | rfl
    · exact lit_ok 24 (by decide +kernel)
    · exact o0.mono (by decide)
    all_goals exact lit_ok 24 (by decide +kernel)
theorem dt_nul {H : Hp} {t : Addr} (e : H t = some (.tup [])) : Dt K H (.tuple []) (.ref t) := dt_tup (.inl (.inl e)) dts_nil
theorem good_nul : GoodQ (.tuple []) 1 1 := ⟨⟨rfl, by decide, by decide⟩, rfl⟩
theorem ok_leaf (D : Df K mg "_law_leaf" "_law_leaf" s__law_leaf ["pot", "names"]) (B : NoB mg) (C__law_take : Cal P w K mg base CX0 "_law_take" ["pot", "many"] 1 spTake) (C__law_word : Cal P w K mg base CX0 "_law_word" ["pot", "names"] 2 spWord)
    (C__law_rule : Cal P w K mg base CX0 "_law_rule" ["pot", "names"] 4 (spDrawn K 3 301)) : Cal P w K mg base CX0 "_law_leaf" ["pot", "names"] 5 (spDrawn K 3 301) := by
  refine D.cal fun f fd F => F.ok sc__law_leaf (fun vs H Q E h => ?_) (fun cdv A outer s H vs Q E hr h => ?_)
  · obtain ⟨_, _, _, rfl, _⟩ := h
    rfl
  · obtain ⟨p, a, ns, rfl, hp, hn, q⟩ := h
    refine ⟨_, (pss_cons (ps_set (i := 2) sc__law_leaf.nd rfl (.inl rfl) (pe_cal C__law_take hr (by rfl) (pa_cons (pv 0) (pa_cons pe_int pa_nil))))
      (pss_cons (ps_if (pt_cmpR op_ltU (pv 2) pe_int (nomark _)) (pss_one (ps_ret (pe_cal C__law_word hr (by rfl) (pa_cons (pv 0) (pa_cons (pv 1) pa_nil))))) pss_nil)
      (pss_cons (ps_if (pt_cmpR (op_eqU K hr.units) (pv 2) pe_int (nomark _)) (pss_one (ps_ret (pe_callTy (call_tupU K) (by rfl) B.m_tuple (by decide +kernel) (pa_cons (pe_lc (own := [("k", 3)]) (by rfl) sc__law_leaf.nd (pi_range1 (by rfl) B.m_range (pa_cons (pe_cal C__law_take hr (by rfl) (pa_cons (pv 0) (pa_cons pe_int pa_nil))) pa_nil)) (blkOk_by (own := [("k", 3)]) (N := ["pot", "names", "kind", "k"]) (sc := defScope s__law_leaf) (by decide +kernel)) (fun _ _ _ _ _ => pg_name (i := 3) sc__law_leaf.nd rfl (Or.inl rfl)) (fun _ _ _ _ _ => pts_nil) (fun _ _ _ _ _ => (pe_cal C__law_word hr (by rfl) (pa_cons (pv 0) (pa_cons (pv 1) pa_nil))))) pa_nil)))) pss_nil)
      (pss_cons (ps_if (pt_cmpR (op_eqU K hr.units) (pv 2) pe_int (nomark _)) (pss_one (ps_ret (pe_tup (pa_cons (pe_tup (pa_cons (pe_cal C__law_word hr (by rfl) (pa_cons (pv 0) (pa_cons (pv 1) pa_nil))) (pa_cons (pe_tup pa_nil) pa_nil))) (pa_cons (pe_cal C__law_word hr (by rfl) (pa_cons (pv 0) (pa_cons (pv 1) pa_nil))) pa_nil))))) pss_nil)
      (pss_cons (ps_if (pt_cmpR (op_eqU K hr.units) (pv 2) pe_int (nomark _)) (pss_one (ps_ret (pe_cal C__law_rule hr (by rfl) (pa_cons (pv 0) (pa_cons (pv 1) pa_nil))))) pss_nil)
      (pss_one (ps_ret (pe_tup (pa_cons (pe_op (op_addU K) pe_str (pe_cal C__law_word hr (by rfl) (pa_cons (pv 0) (pa_cons (pv 1) pa_nil)))) (pa_cons pe_str (pa_cons pe_str pa_nil))))))))))), ?_⟩
    walk_at "rd"
    refine ⟨p, 6, rfl, hp, by decide, by decide, fun H1 d b1 p1 hd => ?_⟩
    have hn1 := hn.bt hp b1
    walk_at "rd"
    refine ite2 (fun _ => ?_) fun _ => ?_
    · walk_at "rd"
      refine ⟨p, a, ns, rfl, p1, hn1, fun H2 z b2 p2 hz => ?_⟩
      exact q H2 _ (.str z) (b1.trans b2) p2 dt_str ((hz.gd (by decide)).mono (by decide) (by decide))
    · walk_at "rd"
      refine ite2 (fun _ => ?_) fun _ => ?_
      · walk_at "rd"
        refine ⟨p, 4, rfl, p1, by decide, by decide, fun H2 d2 b2 p2 hd2 => ?_⟩
        have b02 := b1.trans b2
        refine c_range (n := d2) (szlt (by omega)) (fun D i acc H3 => Bt p H H3 ∧ Pot H3 p ∧ ∀ x ∈ acc, ∃ z, x = .str z ∧ txOk 4 z) ?_ ?_ ?_ rfl
        · exact fun D H3 _ s3 _ => ⟨b02.trans (.same s3), p2.same s3, by simp⟩
        · rintro D i acc H3 hD hi hl hi2 ha ⟨b3, p3, hac⟩
          walk_at "rd"
          refine ⟨rfl, ?_⟩
          walk_at "rd"
          refine ⟨p, a, ns, rfl, p3, hn.bt hp b3, fun H4 z b4 p4 hz => ?_⟩
          have hpD : p ≠ D := p2.ne hD
          refine i_ck (b4 _ _ (Ne.symm hpD) ha) hl hi2 fun H5 b5 e5 => ⟨(b3.trans b4).but (none_bt b02 hD (Ne.symm hpD)) b5, p4.but b5 hpD, ?_⟩
          intro x hx
          rcases List.mem_append.mp hx with hx | hx
          · exact hac x hx
          · rw [List.mem_singleton.mp hx]
            exact ⟨_, rfl, hz⟩
        · rintro D acc H3 hD hl ha ⟨b3, p3, hac⟩
          walk_at "rd"
          obtain ⟨ys, rfl, hys⟩ := strs_of hac
          rw [List.length_map] at hl
          refine i_tupof_l (.inl (.inl ha)) fun t H5 n5 s5 e5 => ?_
          exact q H5 (.ref t) (.tuple (ys.map .str)) (b3.trans (.same s5)) (p3.same s5) (dt_tup (.inl (.inl e5)) dts_strs) ((row_tx (n := 4) (k := 3) hys (by decide) (by omega) (by decide)).mono (by decide) (by decide))
      · walk_at "rd"
        refine ite2 (fun _ => ?_) fun _ => ?_
        · walk_at "rd"
          refine ⟨p, a, ns, rfl, p1, hn1, fun H2 z1 b2 p2 hz1 => ?_⟩
          walk_at "rd"
          refine i_new_t (by exact Nat.zero_le _) fun t3 H3 n3 s3 e3 => ?_
          walk_at "rd"
          refine i_new_t (by show 2 ≤ sizeLine; decide) fun t4 H4 n4 s4 e4 => ?_
          walk_at "rd"
          have b04 := (b1.trans b2).trans (.same (s3.trans s4))
          refine ⟨p, a, ns, rfl, p2.same (s3.trans s4), hn.bt hp b04, fun H5 z2 b5 p5 hz2 => ?_⟩
          walk_at "rd"
          refine i_new_t (by show 2 ≤ sizeLine; decide) fun t6 H6 n6 s6 e6 => ?_
          have st : Stay H4 H6 := ((p2.same (s3.trans s4)).stay b5).trans (.same s6)
          refine q H6 (.ref t6) (.tuple [.tuple [.str z1, .tuple []], .str z2]) ((b04.trans b5).trans (.same s6)) (p5.same s6) (dt_tup (.inl (.inl e6)) (dts_cons ?_ (dts_cons dt_str dts_nil))) ?_
          · have d4 : Dt K H4 (.tuple [.str z1, .tuple []]) (.ref t4) := dt_tup (.inl (.inl e4)) (dts_cons dt_str (dts_cons (dt_nul (s4 _ _ e3)) dts_nil))
            exact d4.mono st
          · have g1 : GoodQ (.tuple [.str z1, .tuple []]) 2 (2 * 5 + 1) := GoodQ.row (n := 1) (fun d hd => by
              simp only [List.mem_cons, List.not_mem_nil, or_false] at hd
              rcases hd with rfl | rfl
              · exact hz1.gd (by decide)
              · exact good_nul.mono (by decide) (by decide)) (by simp) (by decide)
            refine (GoodQ.row (n := 2) (m := 11) (k := 2) (fun d hd => ?_) (by simp) (by decide)).mono (by decide) (by decide)
            simp only [List.mem_cons, List.not_mem_nil, or_false] at hd
            rcases hd with rfl | rfl
            · exact g1
            · exact (hz2.gd (by decide)).mono (by decide) (by decide)
        · walk_at "rd"
          refine ite2 (fun _ => ?_) fun _ => ?_
          · walk_at "rd"
            refine ⟨p, a, ns, rfl, p1, hn1, fun H2 v d b2 p2 hv hg => ?_⟩
            exact q H2 v d (b1.trans b2) p2 hv hg
          · walk_at "rd"
            refine ⟨p, a, ns, rfl, p1, hn1, fun H2 z1 b2 p2 hz1 => ?_⟩
            refine i_add_s (szl (by have := hz1.1; show 7 + _ ≤ _; omega)) ?_
            walk_at "rd"
            have o1 := (lit_ok (z := Str.ofString "text a ") 7 (by decide +kernel)).app hz1
            generalize (Str.ofString "text a " ++ z1) = w1 at o1 ⊢
            refine i_new_t (by show 3 ≤ sizeLine; decide) fun t3 H3 n3 s3 e3 => ?_
            refine q H3 (.ref t3) (.tuple ([w1, Str.ofString "ask b a", Str.ofString "say b"].map .str)) ((b1.trans b2).trans (.same s3)) (p2.same s3) (dt_tup (.inl (.inl e3)) dts_strs) ((row_tx (n := 11) (k := 3) ?_ (by decide) (by simp) (by decide)).mono (by decide) (by decide))
            intro y hy
            simp only [List.mem_cons, List.not_mem_nil, or_false] at hy
            rcases hy with rfl | rfl | rfl
            · exact o1
            all_goals exact lit_ok 11 (by decide +kernel)
/-- a source without the sign -/
structure SrcQ (s : Src) : Prop where
  ok : s.ok
  q : qf s.x = true
def spSource (K : PySem.W.Frag) : Sp := fun vs H Q _ => ∃ (p a : Addr) (ns : List Str), vs = [.ref p, .ref a] ∧ Pot H p ∧ Nms H a ns ∧ ∀ H' v s, Bt p H H' → Pot H' p → Dt K H' (Src.py s) v → SrcQ s → Q v H'
theorem ok_source (D : Df K mg "_law_source" "_law_source" s__law_source ["pot", "names"]) (B : NoB mg) (C__law_take : Cal P w K mg base CX0 "_law_take" ["pot", "many"] 1 spTake) (C__law_leaf : Cal P w K mg base CX0 "_law_leaf" ["pot", "names"] 5 (spDrawn K 3 301))
    (C__law_rule : Cal P w K mg base CX0 "_law_rule" ["pot", "names"] 4 (spDrawn K 3 301)) (C__law_maker : Cal P w K mg base CX0 "_law_maker" ["pot", "names"] 2 (spDrawn K 3 301)) : Cal P w K mg base CX0 "_law_source" ["pot", "names"] 6 (spSource K) := by
  refine D.cal fun f fd F => F.ok sc__law_source (fun vs H Q E h => ?_) (fun cdv A outer s H vs Q E hr h => ?_)
  · obtain ⟨_, _, _, rfl, _⟩ := h
    rfl
  · obtain ⟨p, a, ns, rfl, hp, hn, q⟩ := h
    refine ⟨_, (pss_cons (ps_set (i := 2) sc__law_source.nd rfl (.inl rfl) (pe_cal C__law_take hr (by rfl) (pa_cons (pv 0) (pa_cons pe_int pa_nil))))
      (pss_cons (ps_if (pt_cmpR op_ltU (pv 2) pe_int (nomark _)) (pss_one (ps_ret (pe_tup (pa_cons pe_str (pa_cons (pe_cal C__law_leaf hr (by rfl) (pa_cons (pv 0) (pa_cons (pv 1) pa_nil))) pa_nil))))) pss_nil)
      (pss_cons (ps_if (pt_cmpR op_ltU (pv 2) pe_int (nomark _)) (pss_one (ps_ret (pe_tup (pa_cons pe_str (pa_cons (pe_cal C__law_rule hr (by rfl) (pa_cons (pv 0) (pa_cons (pv 1) pa_nil))) pa_nil))))) pss_nil)
      (pss_cons (ps_if (pt_cmpR (op_eqU K hr.units) (pv 2) pe_int (nomark _)) (pss_one (ps_ret (pe_tup (pa_cons pe_str (pa_cons (pe_cal C__law_maker hr (by rfl) (pa_cons (pv 0) (pa_cons (pv 1) pa_nil))) pa_nil))))) pss_nil)
      (pss_cons (ps_if (PW.pt (pw_and (pt_cmpR (op_eqU K hr.units) (pv 2) pe_int (nomark _)) (pw_and1 (pt_cmpR (op_eqU K hr.units) (pe_cal C__law_take hr (by rfl) (pa_cons (pv 0) (pa_cons pe_int pa_nil))) pe_int (nomark _))))) (pss_one (ps_ret (pe_tup (pa_cons pe_str (pa_cons (pe_cal C__law_leaf hr (by rfl) (pa_cons (pv 0) (pa_cons (pv 1) pa_nil))) pa_nil))))) pss_nil)
      (pss_one (ps_ret (pe_tup (pa_cons pe_str (pa_cons (pe_ix (ix_U K) (pv 1) (pe_cal C__law_take hr (by rfl) (pa_cons (pv 0) (pa_cons (pe_callB (call_lenU K) (by rfl) B.m_len (by decide +kernel) (pa_cons (pv 1) pa_nil)) pa_nil))) (fun _ _ => rfl)) pa_nil)))))))))), ?_⟩
    have fin : ∀ (k : Str) (H1 H2 : Hp) (v : V) (d : PyData), (k = "leaf" ∨ k = "rule") → Bt p H H1 → Pot H1 p → Dt K H1 d v → GoodQ d 3 301 → UK [.str k, v] H1 Q := by
      intro k H1 H2 v d hk b1 p1 hv hg
      refine i_new_t (by show 2 ≤ sizeLine; decide) fun t H3 n3 s3 e3 => ?_
      exact q H3 (.ref t) ⟨k, d⟩ (b1.trans (.same s3)) (p1.same s3) (dt_tup (.inl (.inl e3)) (dts_cons dt_str (dts_cons (hv.mono (.same s3)) dts_nil))) ⟨.inr ⟨hk, hg.t.ok (by decide) (by decide)⟩, hg.q⟩
    walk_at "rd"
    refine ⟨p, 10, rfl, hp, by decide, by decide, fun H1 d b1 p1 hd => ?_⟩
    have hn1 := hn.bt hp b1
    have made : ∀ H2, Bt p H H2 → Pot H2 p → tRet (tTup (tCons (tC (V.str (Str.ofString "made"))) (tCons (tOp (rIx K) (tVar 1) (tCall spTake [] E0 (tCons (tVar 0) (tCons (tCB (rLenU K) (tCons (tVar 1) tNil)) tNil)))) tNil)))
        { nx := fun x H' => Q V.non H', rt := Q } [some (.ref p), some (.ref a), some (.int d)] H2 := by
      intro H2 b2 p2
      have hn2 := hn.bt hp b2
      have h1 := hn2.ne
      have h2 := hn2.le
      walk_at "rd"
      refine i_len_l (.inl (.inl hn2.at')) ?_
      walk_at "rd"
      refine ⟨p, ns.length, by rw [List.length_map]; rfl, p2, by omega, by omega, fun H3 d3 b3 p3 hd3 => ?_⟩
      have hn3 := hn2.bt p2 b3
      have hg := hn.ok _ (List.getElem_mem hd3)
      refine i_ix_l (.inl (.inl hn3.at')) (atI_nat (j := d3) (v := .str ns[d3]) (by rw [List.getElem?_map, List.getElem?_eq_getElem hd3]; rfl)) ?_
      walk_at "rd"
      refine i_new_t (by show 2 ≤ sizeLine; decide) fun t H4 n4 s4 e4 => ?_
      exact q H4 (.ref t) ⟨"made", .str ns[d3]⟩ ((b2.trans b3).trans (.same s4)) (p3.same s4) (dt_tup (.inl (.inl e4)) (dts_cons dt_str (dts_cons dt_str dts_nil))) ⟨.inl ⟨rfl, _, rfl, hg.1⟩, hg.2.2⟩
    walk_at "rd"
    refine ite2 (fun _ => ?_) fun _ => ?_
    · walk_at "rd"
      refine ⟨p, a, ns, rfl, p1, hn1, fun H2 v d b2 p2 hv hg => ?_⟩
      walk_at "rd"
      exact fin _ H2 H2 v d (.inl rfl) (b1.trans b2) p2 hv hg
    · walk_at "rd"
      refine ite2 (fun _ => ?_) fun _ => ?_
      · walk_at "rd"
        refine ⟨p, a, ns, rfl, p1, hn1, fun H2 v d b2 p2 hv hg => ?_⟩
        walk_at "rd"
        exact fin _ H2 H2 v d (.inr rfl) (b1.trans b2) p2 hv hg
      · walk_at "rd"
        refine ite2 (fun _ => ?_) fun _ => ?_
        · walk_at "rd"
          refine ⟨p, a, ns, rfl, p1, hn1, fun H2 v d b2 p2 hv hg => ?_⟩
          walk_at "rd"
          exact fin _ H2 H2 v d (.inr rfl) (b1.trans b2) p2 hv hg
        · walk_at "rd"
          refine ite2 (fun _ => ?_) fun _ => ?_
          · walk_at "rd"
            refine ⟨p, 4, rfl, p1, by decide, by decide, fun H2 d2 b2 p2 hd2 => ?_⟩
            walk_at "rd"
            refine ite2 (fun _ => ?_) fun _ => ?_
            · walk_at "rd"
              refine ⟨p, a, ns, rfl, p2, hn.bt hp (b1.trans b2), fun H3 v d b3 p3 hv hg => ?_⟩
              walk_at "rd"
              exact fin _ H3 H3 v d (.inr rfl) ((b1.trans b2).trans b3) p3 hv hg
            · refine i_next ?_
              exact made H2 (b1.trans b2) p2
          · refine iteF ?_
            refine i_next ?_
            exact made H1 b1 p1
end
end Aw

namespace Aw
open PySem PySem.Spec PyProof.Rows L2

local macro_rules | `(tactic| walk_at "rd1") => `(tactic| first
  | ((with_reducible apply i_var); exact rfl)
  | with_reducible refine i_c ?_
  | with_reducible refine i_op ?_
  | with_reducible refine i_un ?_
  | with_reducible refine i_test ?_
  | with_reducible refine i_tB ?_
  | with_reducible refine i_bl ?_
  | with_reducible refine i_and ?_
  | with_reducible refine i_or ?_
  | with_reducible refine i_not ?_
  | with_reducible refine i_andV ?_
  | with_reducible refine i_orV ?_
  | with_reducible refine i_notV ?_
  | with_reducible refine i_if ?_
  | with_reducible refine i_chain ?_
  | with_reducible refine i_nil ?_
  | with_reducible refine i_cons ?_
  | with_reducible refine i_tup ?_
  | with_reducible refine i_lst ?_
  | with_reducible refine i_cb ?_
  | with_reducible refine i_call ?_
  | with_reducible refine i_bm ?_
  | with_reducible refine i_m1 ?_
  | with_reducible refine i_m0 ?_
  | with_reducible refine i_exstr ?_
  | with_reducible refine i_sl ?_
  | with_reducible refine i_nopart ?_
  | with_reducible refine i_part ?_
  | with_reducible refine i_int ?_
  | with_reducible refine i_seq ?_
  | with_reducible refine i_next ?_
  | with_reducible refine i_asg ?_
  | with_reducible refine i_gname ?_
  | with_reducible refine i_ret ?_
  | with_reducible refine i_retN ?_
  | with_reducible refine i_drop ?_
  | with_reducible refine i_ifS ?_
  | with_reducible refine i_break ?_
  | with_reducible refine i_cont ?_
  | ((with_reducible apply i_aug); exact rfl)
  | with_reducible refine i_add_i ?_
  | with_reducible refine i_sub ?_
  | with_reducible refine i_neg ?_
  | with_reducible refine i_ipadd_i ?_
  | with_reducible refine i_ip ?_
  | with_reducible refine i_lt ?_
  | with_reducible refine i_le ?_
  | with_reducible refine i_gt ?_
  | with_reducible refine i_ge ?_
  | with_reducible refine i_lt_s ?_
  | with_reducible refine i_le_s ?_
  | with_reducible refine i_gt_s ?_
  | with_reducible refine i_ge_s ?_
  | with_reducible refine i_isN ?_
  | with_reducible refine i_notN ?_
  | with_reducible refine i_in_c ?_
  | with_reducible refine i_nin_c ?_
  | with_reducible refine i_gsub ?_
  | with_reducible refine i_gcons ?_
  | with_reducible refine i_gnil ?_
  | with_reducible refine i_iList ?_
  | with_reducible refine i_iTup ?_
  | with_reducible refine i_iStr ?_
  | with_reducible refine i_iRng1 ?_
  | with_reducible refine i_lc ?_
  | with_reducible refine i_for ?_
  | with_reducible refine i_yes ?_
  | with_reducible refine i_repl ?_
  | with_reducible refine i_meth ?_
  | with_reducible refine i_fld ?_
  | with_reducible refine i_sfld ?_
  | with_reducible refine i_din ?_
  | with_reducible refine i_dnin ?_
  | with_reducible refine i_dget ?_
  | with_reducible refine i_dput ?_
  | with_reducible refine i_joined ?_
  | with_reducible refine i_callS ?_
  | with_reducible refine i_xf ?_
  | with_reducible refine i_revL ?_
  | with_reducible refine i_items ?_
  | with_reducible refine i_stepL ?_
  | with_reducible refine i_make ?_
  | with_reducible refine i_fmt ?_
  | with_reducible refine i_jcons ?_
  | with_reducible refine i_jnil ?_
  | with_reducible refine i_iEnum ?_
  | with_reducible refine i_faug ?_
  | with_reducible refine i_dget2 ?_
  | with_reducible refine i_kin ?_
  | with_reducible refine i_kix ?_
  | with_reducible refine i_bm0 ?_
  | with_reducible refine i_meth ?_
  | with_reducible refine iteT ?_
  | with_reducible refine iteF ?_
  | with_reducible refine iteNT ?_
  | with_reducible refine iteNF ?_
  | ((with_reducible refine i_len_s ?_ ?_); (first | assumption | exact szl (by assumption)))
  | ((with_reducible refine i_sl_s ?_ ?_); (first | assumption | exact szl (by assumption)))
  | with_reducible refine i_int_b ?_
  | with_reducible refine i_abs ?_
  | with_reducible refine i_min2 ?_
  | with_reducible refine i_eq rfl ?_
  | with_reducible refine i_ne rfl ?_
  | with_reducible refine iteDR ?_
  | with_reducible refine iteRN ?_
  | with_reducible refine iteI1 ?_
  | with_reducible refine iteI2 ?_
  | with_reducible refine iteI3 ?_
  | with_reducible refine iteI4 ?_
  | with_reducible refine iteSN ?_
  | with_reducible refine iteNDR ?_
  | with_reducible refine iteNRN ?_
  | with_reducible refine iteNSN ?_
  | with_reducible refine iteST (by first | rfl | decide) ?_
  | with_reducible refine iteSF (by decide) ?_
  | with_reducible refine iteNST (by first | rfl | decide) ?_
  | with_reducible refine iteNSF (by decide) ?_)
local macro_rules | `(tactic| walk_at "rd") => `(tactic| repeat walk_at "rd1")

abbrev s__law_sources : Stmt := topS 72
theorem sc__law_sources : FnScope ["script", "names", "pairs", "k", "cell"] ["script"] (defScope s__law_sources) := ⟨rfl, rfl, rfl, by decide +kernel, rfl, by decide +kernel, by decide +kernel⟩
section
variable {P : Program} {w : World} {K : PySem.W.Frag} {mg : Str → Option Value} {base : Heap}
def eight : List Str := [Str.ofString "a", Str.ofString "b1", Str.ofString "c/d", Str.ofString "e.f", Str.ofString "g", Str.ofString "h9", Str.ofString "k", Str.ofString "m/n"]
theorem eight_ok : ∀ n ∈ eight, nameOk n = true ∧ n.length ≤ 3 ∧ qfS n = true := by decide +kernel

theorem eight_nd : eight.Nodup := by decide +kernel
theorem nd_take {l : List Str} (h : l.Nodup) {i : Nat} {x : Str} (e : l[i]? = some x) : x ∉ l.take i := by
  intro hm
  obtain ⟨j, hj, ej⟩ := List.mem_iff_getElem.mp hm
  rw [List.length_take] at hj
  rw [List.getElem_take] at ej
  have e2 : l[j]? = some x := by rw [List.getElem?_eq_getElem (by omega), ej]
  have := nd_ix h e e2
  omega
theorem cutV_take {xs : List V} {k : Nat} (h : k ≤ xs.length) : cutV xs none (some (k : Int)) = xs.take k := by
  unfold cutV
  rw [HT.sIx_none, HT.sIx_nat, List.drop_zero, Nat.sub_zero, Nat.min_eq_left h]
/-- sources for some of the names -/
def spSources (K : PySem.W.Frag) : Sp := fun vs H Q _ => ∃ (a : Addr) (ns : List Int), vs = [.ref a] ∧ SqL K H a (ns.map V.int) ∧ ∀ H' l prs xs, Same H H' → H l = none → H' l = some (.lst xs) → Dts K H' (prs.map prPy) xs → PrsOk prs → prs.length ≤ 8 → (∀ n ∈ names prs, n ∈ eight) → QPrs prs → Q (.ref l) H'
theorem ok_sources (D : Df K mg "_law_sources" "_law_sources" s__law_sources ["script"]) (B : NoB mg) (C__law_cell_at : Cal P w K mg base CX0 "_law_cell_at" ["script", "k"] 1 (spCellAt K)) (C__law_pot : Cal P w K mg base CX0 "_law_pot" ["cell", "salt"] 1 spPot)
    (C__law_source : Cal P w K mg base CX0 "_law_source" ["pot", "names"] 6 (spSource K)) : Cal P w K mg base CX0 "_law_sources" ["script"] 7 (spSources K) := by
  refine D.cal fun f fd F => F.ok sc__law_sources (fun vs H Q E h => ?_) (fun cdv A outer s H vs Q E hr h => ?_)
  · obtain ⟨_, _, rfl, _⟩ := h
    rfl
  · obtain ⟨a, ns, rfl, hs, q⟩ := h
    refine ⟨_, (pss_cons (ps_set (i := 1) sc__law_sources.nd rfl (.inl rfl) (pe_slice (sl_U K) (pe_lst (pa_cons pe_str (pa_cons pe_str (pa_cons pe_str (pa_cons pe_str (pa_cons pe_str (pa_cons pe_str (pa_cons pe_str (pa_cons pe_str pa_nil))))))))) po_none (po_some (pe_op (op_addU K) pe_int (pe_op op_modU (pe_cal C__law_cell_at hr (by rfl) (pa_cons (pv 0) (pa_cons pe_int pa_nil))) pe_int)))))
      (pss_cons (ps_set (i := 2) sc__law_sources.nd rfl (.inl rfl) (pe_lst pa_nil))
      (pss_cons (ps_for PassesOwn.never rfl (pi_range1 (by rfl) B.m_range (pa_cons (pe_callB (call_lenU K) (by rfl) B.m_len (by decide +kernel) (pa_cons (pv 1) pa_nil)) pa_nil)) (pg_name (i := 3) sc__law_sources.nd rfl (.inl rfl)) (pss_cons (ps_set (i := 4) sc__law_sources.nd rfl (.inl rfl) (pe_callB (call_sumU K rfl) (by rfl) B.m_sum (by decide +kernel) (pa_cons (pe_stepL (K := K) (pv 0) (pe_op (op_addU K) pe_int (pv 3)) pe_int) pa_nil)))
      (pss_one (ps_if (pt_cmpR (op_neU K hr.units) (pe_op op_modU (pv 4) pe_int) pe_int (nomark _)) (pss_one (ps_expr (pe_bmU K PySem.F.plainAttrs_list PySem.F.slot_list_append PySem.F.type_list_append mt_append (pv 2) (pa_cons (pe_tup (pa_cons (pe_ix (ix_U K) (pv 1) (pv 3) (fun _ _ => rfl)) (pa_cons (pe_cal C__law_source hr (by rfl) (pa_cons (pe_cal C__law_pot hr (by rfl) (pa_cons (pv 4) (pa_cons (pv 3) pa_nil))) (pa_cons (pv 1) pa_nil))) pa_nil))) pa_nil)))) pss_nil))))
      (pss_one (ps_ret (pv 2)))))), ?_⟩
    walk_at "rd"
    refine i_new_l (by show 8 ≤ sizeLine; decide) fun l1 H1 n1 s1 e1 => ?_
    walk_at "rd"
    refine ⟨a, ns, 0, rfl, s1.seq hs, fun c => ?_⟩
    walk_at "rd"
    refine i_mod (by decide) ?_
    walk_at "rd"
    obtain ⟨d, hd, hd8⟩ := dig c (m := 8) (by decide)
    have hd : c.fmod 8 = (d : Int) := hd
    rw [hd, show (1 : Int) + (d : Int) = ((1 + d : Nat) : Int) by omega]
    refine i_sl_l (.inl (.inl e1)) fun l2 H2 n2 s2 e2 => ?_
    rw [cutV_take (by show _ ≤ 8; omega)] at e2
    have e2 : H2 l2 = some (.lst ((eight.take (1 + d)).map V.str)) := by rw [e2, List.map_take]; rfl
    have hN : Nms H2 l2 (eight.take (1 + d)) := ⟨e2, by rw [List.length_take]; show 1 ≤ min _ 8; omega, by rw [List.length_take]; show min _ 8 ≤ 8; omega, fun n hn => eight_ok n (List.mem_of_mem_take hn)⟩
    have hnd : (eight.take (1 + d)).Nodup := eight_nd.sublist (List.take_sublist _ _)
    have hin8 : ∀ n ∈ eight.take (1 + d), n ∈ eight := fun n hn => List.mem_of_mem_take hn
    generalize (eight.take (1 + d)) = nms at e2 hN hnd hin8
    have hle := hN.le
    walk_at "rd"
    refine i_new_l (by exact Nat.zero_le _) fun l3 H3 n3 s3 e3 => ?_
    walk_at "rd"
    refine i_len_l (.inl (.inl (s3 _ _ e2))) ?_
    have s13 := s1.trans (s2.trans s3)
    have nl3 : H l3 = none := none_back (s1.trans s2) n3
    refine f_range (n := nms.length) (by omega) (fun i σ H4 => ∃ (prs : Prs) (xs : List V) (y1 y2 : Option V), σ = [some (.ref a), some (.ref l2), some (.ref l3), y1, y2] ∧ Same H H4 ∧ Nms H4 l2 nms ∧ H4 l3 = some (.lst xs) ∧ Dts K H4 (prs.map prPy) xs ∧ (names prs).Nodup ∧ (∀ n ∈ names prs, n ∈ nms.take i) ∧ prs.length ≤ i ∧ ∀ p ∈ prs, (nameOk p.1 = true ∧ p.2.ok) ∧ qfS p.1 = true ∧ qf p.2.x = true) ?_ ?_ ?_ (by rw [List.length_map])
    · exact ⟨[], [], none, none, rfl, s13, hN.same s3, e3, dts_nil, List.nodup_nil, by simp [names], Nat.zero_le _, by simp⟩
    · rintro i σ H4 hi ⟨prs, xs, y1, y2, rfl, s4, hN4, e4, hx, nd, hsub, hpl, hpo⟩
      walk_at "rd"
      refine i_stepk (s4.seq hs) (by decide) fun p5 H5 n5 s5 e5 => ?_
      walk_at "rd"
      refine i_sum (.inl (.inl e5)) ?_
      walk_at "rd"
      refine i_mod (by decide) ?_
      walk_at "rd"
      have s05 := s4.trans s5
      have hN5 := hN4.same s5
      refine ite2 (fun _ => ?_) fun _ => ?_
      · walk_at "rd"
        refine i_tyl (s5 _ _ e4) ?_
        have hi' : nms[i]? = some nms[i] := List.getElem?_eq_getElem hi
        have hok := hN.ok _ (List.getElem_mem hi)
        generalize nms[i] = nm at hi' hok
        walk_at "rd"
        refine i_ix_l (.inl (.inl hN5.at')) (atI_nat (j := i) (v := .str nm) (by rw [List.getElem?_map, hi']; rfl)) ?_
        walk_at "rd"
        refine ⟨_, i, rfl, by omega, fun H6 p6 n6 s6 hp6 => ?_⟩
        walk_at "rd"
        refine ⟨p6, l2, nms, rfl, hp6, hN5.same s6, fun H7 v sr b7 p7 hv hsr => ?_⟩
        have s57 : Same H5 H7 := Same.but s6 n6 b7
        walk_at "rd"
        refine i_new_t (by show 2 ≤ sizeLine; decide) fun t8 H8 n8 s8 e8 => ?_
        walk_at "rd"
        have s48 := s5.trans (s57.trans s8)
        have e48 := s48 _ _ e4
        have hxl := hx.length
        rw [List.length_map] at hxl
        refine i_append e48 (szlt (by omega)) fun H9 b9 e9 => ?_
        walk_at "rd"
        have nl3' : l2 ≠ l3 := ne_of_none e2 n3
        refine ⟨prs ++ [(nm, sr)], _, _, _, rfl, Same.but (s4.trans s48) nl3 b9, (hN4.same s48).but b9 nl3', e9, ?_, ?_, ?_, by rw [List.length_append]; show _ + 1 ≤ _; omega, ?_⟩
        · rw [List.map_append]
          have st : Stay H4 H9 := (Stay.same s48).trans (.but b9 e48)
          refine (hx.mono st).snoc ?_
          have d8 : Dt K H8 (prPy (nm, sr)) (.ref t8) := dt_tup (.inl (.inl e8)) (dts_cons dt_str (dts_cons (hv.mono (.same s8)) dts_nil))
          exact d8.mono (.but b9 e48)
        · unfold names at nd hsub ⊢
          rw [List.map_append]
          refine List.nodup_append.mpr ⟨nd, List.nodup_cons.mpr ⟨by simp, List.nodup_nil⟩, ?_⟩
          intro x hx1 y hy1 e
          rw [List.mem_singleton.mp hy1] at e
          have := hsub x hx1
          rw [e] at this
          exact nd_take hnd hi' this
        · unfold names at hsub ⊢
          rw [List.map_append, take_snoc hi']
          intro n hn
          rcases List.mem_append.mp hn with hn | hn
          · exact List.mem_append_left _ (hsub n hn)
          · exact List.mem_append_right _ (by rw [List.mem_singleton.mp hn]; exact List.mem_singleton_self _)
        · intro p hp
          rcases List.mem_append.mp hp with hp | hp
          · exact hpo p hp
          · rw [List.mem_singleton.mp hp]
            exact ⟨⟨hok.1, hsr.ok⟩, hok.2.2, hsr.q⟩
      · walk_at "rd"
        refine ⟨prs, xs, _, _, rfl, s05, hN5, s5 _ _ e4, hx.mono (.same s5), nd, fun n hn => ?_, by omega, hpo⟩
        have h1 : nms.take i = (nms.take (i + 1)).take i := by rw [List.take_take]; congr 1; omega
        have := hsub n hn
        rw [h1] at this
        exact List.mem_of_mem_take this
    · rintro σ H4 ⟨prs, xs, y1, y2, rfl, s4, hN4, e4, hx, nd, hsub, hpl, hpo⟩
      walk_at "rd"
      exact q H4 l3 prs xs s4 nl3 e4 hx ⟨fun p hp => (hpo p hp).1.1, fun p hp => (hpo p hp).1.2, nd, by omega⟩ (by omega) (fun n hn => hin8 n (List.mem_of_mem_take (hsub n hn))) fun p hp => (hpo p hp).2
end
end Aw

namespace Aw
open PySem PySem.Spec PyProof.Rows L2

local macro_rules | `(tactic| walk_at "rd1") => `(tactic| first
  | ((with_reducible apply i_var); exact rfl)
  | with_reducible refine i_c ?_
  | with_reducible refine i_op ?_
  | with_reducible refine i_un ?_
  | with_reducible refine i_test ?_
  | with_reducible refine i_tB ?_
  | with_reducible refine i_bl ?_
  | with_reducible refine i_and ?_
  | with_reducible refine i_or ?_
  | with_reducible refine i_not ?_
  | with_reducible refine i_andV ?_
  | with_reducible refine i_orV ?_
  | with_reducible refine i_notV ?_
  | with_reducible refine i_if ?_
  | with_reducible refine i_chain ?_
  | with_reducible refine i_nil ?_
  | with_reducible refine i_cons ?_
  | with_reducible refine i_tup ?_
  | with_reducible refine i_lst ?_
  | with_reducible refine i_cb ?_
  | with_reducible refine i_call ?_
  | with_reducible refine i_bm ?_
  | with_reducible refine i_m1 ?_
  | with_reducible refine i_m0 ?_
  | with_reducible refine i_exstr ?_
  | with_reducible refine i_sl ?_
  | with_reducible refine i_nopart ?_
  | with_reducible refine i_part ?_
  | with_reducible refine i_int ?_
  | with_reducible refine i_seq ?_
  | with_reducible refine i_next ?_
  | with_reducible refine i_asg ?_
  | with_reducible refine i_gname ?_
  | with_reducible refine i_ret ?_
  | with_reducible refine i_retN ?_
  | with_reducible refine i_drop ?_
  | with_reducible refine i_ifS ?_
  | with_reducible refine i_break ?_
  | with_reducible refine i_cont ?_
  | ((with_reducible apply i_aug); exact rfl)
  | with_reducible refine i_add_i ?_
  | with_reducible refine i_sub ?_
  | with_reducible refine i_neg ?_
  | with_reducible refine i_ipadd_i ?_
  | with_reducible refine i_ip ?_
  | with_reducible refine i_lt ?_
  | with_reducible refine i_le ?_
  | with_reducible refine i_gt ?_
  | with_reducible refine i_ge ?_
  | with_reducible refine i_lt_s ?_
  | with_reducible refine i_le_s ?_
  | with_reducible refine i_gt_s ?_
  | with_reducible refine i_ge_s ?_
  | with_reducible refine i_isN ?_
  | with_reducible refine i_notN ?_
  | with_reducible refine i_in_c ?_
  | with_reducible refine i_nin_c ?_
  | with_reducible refine i_gsub ?_
  | with_reducible refine i_gcons ?_
  | with_reducible refine i_gnil ?_
  | with_reducible refine i_iList ?_
  | with_reducible refine i_iTup ?_
  | with_reducible refine i_iStr ?_
  | with_reducible refine i_iRng1 ?_
  | with_reducible refine i_lc ?_
  | with_reducible refine i_for ?_
  | with_reducible refine i_yes ?_
  | with_reducible refine i_repl ?_
  | with_reducible refine i_meth ?_
  | with_reducible refine i_fld ?_
  | with_reducible refine i_sfld ?_
  | with_reducible refine i_din ?_
  | with_reducible refine i_dnin ?_
  | with_reducible refine i_dget ?_
  | with_reducible refine i_dput ?_
  | with_reducible refine i_joined ?_
  | with_reducible refine i_callS ?_
  | with_reducible refine i_xf ?_
  | with_reducible refine i_revL ?_
  | with_reducible refine i_items ?_
  | with_reducible refine i_stepL ?_
  | with_reducible refine i_make ?_
  | with_reducible refine i_fmt ?_
  | with_reducible refine i_jcons ?_
  | with_reducible refine i_jnil ?_
  | with_reducible refine i_iEnum ?_
  | with_reducible refine i_faug ?_
  | with_reducible refine i_dget2 ?_
  | with_reducible refine i_kin ?_
  | with_reducible refine i_kix ?_
  | with_reducible refine i_bm0 ?_
  | with_reducible refine i_meth ?_
  | with_reducible refine iteT ?_
  | with_reducible refine iteF ?_
  | with_reducible refine iteNT ?_
  | with_reducible refine iteNF ?_
  | ((with_reducible refine i_len_s ?_ ?_); (first | assumption | exact szl (by assumption)))
  | ((with_reducible refine i_sl_s ?_ ?_); (first | assumption | exact szl (by assumption)))
  | with_reducible refine i_int_b ?_
  | with_reducible refine i_abs ?_
  | with_reducible refine i_min2 ?_
  | with_reducible refine i_eq rfl ?_
  | with_reducible refine i_ne rfl ?_
  | with_reducible refine iteDR ?_
  | with_reducible refine iteRN ?_
  | with_reducible refine iteI1 ?_
  | with_reducible refine iteI2 ?_
  | with_reducible refine iteI3 ?_
  | with_reducible refine iteI4 ?_
  | with_reducible refine iteSN ?_
  | with_reducible refine iteNDR ?_
  | with_reducible refine iteNRN ?_
  | with_reducible refine iteNSN ?_
  | with_reducible refine iteST (by first | rfl | decide) ?_
  | with_reducible refine iteSF (by decide) ?_
  | with_reducible refine iteNST (by first | rfl | decide) ?_
  | with_reducible refine iteNSF (by decide) ?_)
local macro_rules | `(tactic| walk_at "rd") => `(tactic| repeat walk_at "rd1")

abbrev s__law_changed : Stmt := topS 73
theorem sc__law_changed : FnScope ["pairs", "pot", "names", "found", "k", "name"] ["pairs", "pot", "names"] (defScope s__law_changed) := ⟨rfl, rfl, rfl, by decide +kernel, rfl, by decide +kernel, by decide +kernel⟩
section
variable {P : Program} {w : World} {K : PySem.W.Frag} {mg : Str → Option Value} {base : Heap}
/-- a source put in its place, or at the end -/
def putP (prs : Prs) (z : Str) (s : Src) : Prs := if z ∈ names prs then prs.map (fun p => if p.1 = z then (p.1, s) else p) else prs ++ [(z, s)]
def dropP (prs : Prs) (z : Str) : Prs := prs.filter fun p => decide (p.1 ≠ z)
theorem KVs.drop {H : Hp} {z : Str} : ∀ {kvs : List (Key × V)} {prs : Prs}, KVs K H kvs prs → KVs K H (dropK kvs (Sum.inr z)) (dropP prs z)
  | [], [], _ => trivial
  | kv :: r, p :: t, h => by
    have ih := KVs.drop (z := z) h.2.2
    unfold dropK dropP at ih ⊢
    by_cases e : p.1 = z
    · have e1 : kv.1 = Sum.inr z := by rw [h.1, e]
      rw [List.filter_cons_of_neg (by simp [e1]), List.filter_cons_of_neg (by simp [e])]
      exact ih
    · have e1 : ¬ kv.1 = Sum.inr z := by rw [h.1]; exact fun q => e (Sum.inr.inj q)
      rw [List.filter_cons_of_pos (by simp [e1]), List.filter_cons_of_pos (by simp [e])]
      exact ⟨h.1, h.2.1, ih⟩
  | [], _ :: _, h => h.elim
  | _ :: _, [], h => h.elim
theorem KVs.mapped {H : Hp} {z : Str} {s : Src} {v : V} (d : Dt K H s.py v) : ∀ {kvs : List (Key × V)} {prs : Prs}, KVs K H kvs prs → KVs K H (kvs.map fun kv => if kv.1 = Sum.inr z then (kv.1, v) else kv) (prs.map fun p => if p.1 = z then (p.1, s) else p)
  | [], [], _ => trivial
  | kv :: r, p :: t, h => by
    have ih := KVs.mapped d h.2.2 (z := z)
    rw [List.map_cons, List.map_cons]
    by_cases e : p.1 = z
    · have e1 : kv.1 = Sum.inr z := by rw [h.1, e]
      rw [if_pos e1, if_pos e]
      exact ⟨h.1, d, ih⟩
    · have e1 : ¬ kv.1 = Sum.inr z := by rw [h.1]; exact fun q => e (Sum.inr.inj q)
      rw [if_neg e1, if_neg e]
      exact ⟨h.1, h.2.1, ih⟩
  | [], _ :: _, h => h.elim
  | _ :: _, [], h => h.elim
theorem KVs.any {H : Hp} {z : Str} : ∀ {kvs : List (Key × V)} {prs : Prs}, KVs K H kvs prs → ((kvs.any fun kv => decide (kv.1 = Sum.inr z)) = true ↔ z ∈ names prs)
  | [], [], _ => by simp [names]
  | kv :: r, p :: t, h => by
    have ih := KVs.any (z := z) h.2.2
    unfold names at ih ⊢
    rw [List.any_cons, List.map_cons, List.mem_cons, Bool.or_eq_true, ih, h.1, decide_eq_true_eq]
    exact ⟨fun q => q.imp (fun e => (Sum.inr.inj e).symm) id, fun q => q.imp (fun e => by rw [e]) id⟩
  | [], _ :: _, h => h.elim
  | _ :: _, [], h => h.elim
theorem KVs.put {H : Hp} {z : Str} {s : Src} {v : V} {kvs : List (Key × V)} {prs : Prs} (h : KVs K H kvs prs) (d : Dt K H s.py v) : KVs K H (putK kvs (Sum.inr z) v) (putP prs z s) := by
  unfold putK putP
  by_cases e : z ∈ names prs
  · rw [if_pos (h.any.mpr e), if_pos e]
    exact h.mapped d
  · rw [if_neg (fun q => e (h.any.mp q)), if_neg e]
    exact h.snoc d
theorem names_map {prs : Prs} {z : Str} {s : Src} : names (prs.map fun p => if p.1 = z then (p.1, s) else p) = names prs := by
  unfold names
  rw [List.map_map]
  refine List.map_congr_left fun p _ => ?_
  show (if p.1 = z then (p.1, s) else p).1 = p.1
  split <;> rfl
theorem drop_ok {prs : Prs} {z : Str} (h : PrsOk prs) : PrsOk (dropP prs z) :=
  ⟨fun p hp => h.nm p (List.mem_filter.mp hp).1, fun p hp => h.sr p (List.mem_filter.mp hp).1, h.nd.sublist (List.filter_sublist.map _), Nat.le_trans (List.length_filter_le _ _) h.ln⟩
theorem drop_len {prs : Prs} {z : Str} : (dropP prs z).length ≤ prs.length := List.length_filter_le _ _
theorem put_len {prs : Prs} {z : Str} {s : Src} : (putP prs z s).length ≤ prs.length + 1 := by
  unfold putP
  split
  · rw [List.length_map]; omega
  · rw [List.length_append]; exact Nat.le_refl _
theorem put_ok {prs : Prs} {z : Str} {s : Src} (h : PrsOk prs) (hz : nameOk z = true) (hs : s.ok) (hl : prs.length < 60) : PrsOk (putP prs z s) := by
  have hl2 := put_len (prs := prs) (z := z) (s := s)
  unfold putP at hl2 ⊢
  split at hl2
  · rename_i e
    rw [if_pos e]
    refine ⟨fun p hp => ?_, fun p hp => ?_, by rw [names_map]; exact h.nd, by omega⟩
    · obtain ⟨q, hq, rfl⟩ := List.mem_map.mp hp
      split
      · exact h.nm q hq
      · exact h.nm q hq
    · obtain ⟨q, hq, rfl⟩ := List.mem_map.mp hp
      split
      · exact hs
      · exact h.sr q hq
  · rename_i e
    rw [if_neg e]
    refine ⟨fun p hp => ?_, fun p hp => ?_, ?_, by omega⟩
    · rcases List.mem_append.mp hp with hp | hp
      · exact h.nm p hp
      · rw [List.mem_singleton.mp hp]; exact hz
    · rcases List.mem_append.mp hp with hp | hp
      · exact h.sr p hp
      · rw [List.mem_singleton.mp hp]; exact hs
    · unfold names at e ⊢
      rw [List.map_append]
      refine List.nodup_append.mpr ⟨h.nd, List.nodup_cons.mpr ⟨by simp, List.nodup_nil⟩, ?_⟩
      intro x hx y hy q
      rw [List.mem_singleton.mp hy] at q
      rw [q] at hx
      exact e hx
theorem mergeK_new : ∀ {more kvs : List (Key × V)}, ((kvs ++ more).map (·.1)).Nodup → mergeK kvs more = kvs ++ more
  | [], kvs, _ => by rw [List.append_nil]; rfl
  | kv :: r, kvs, h => by
    have hn : valV kvs kv.1 = none := by
      have h2 : kv.1 ∉ kvs.map (·.1) := by
        rw [List.map_append, List.map_cons] at h
        intro m
        exact (List.nodup_append.mp h).2.2 _ m _ (List.mem_cons_self ..) rfl
      cases hv : valV kvs kv.1 with
      | none => rfl
      | some v =>
        have ha := valV_any kv.1 kvs
        rw [hv] at ha
        obtain ⟨q, hq, e⟩ := List.any_eq_true.mp ha
        exact absurd (by rw [← of_decide_eq_true e]; exact List.mem_map_of_mem hq) h2
    show mergeK (putK kvs kv.1 kv.2) r = _
    rw [putK_new _ hn, mergeK_new (by rw [List.append_assoc]; exact h), List.append_assoc]
    rfl
theorem dropK_none {z : Key} {kvs : List (Key × V)} (h : valV kvs z = none) : dropK kvs z = kvs := by
  have ha := valV_any z kvs
  rw [h] at ha
  unfold dropK
  rw [List.filter_eq_self]
  intro q hq
  have := List.any_eq_false.mp ha q hq
  simpa using this
/-- pairs as a list holds them -/
theorem pairs_kvs {H : Hp} : ∀ {prs : Prs} {xs : List V}, Dts K H (prs.map prPy) xs → ∃ (ps : List Addr) (kvs : List (Key × V)), xs = ps.map V.ref ∧ Paired (fun p kv => SqT K H p [kV kv.1, kv.2]) ps kvs ∧ KVs K H kvs prs
  | [], xs, h => ⟨[], [], h.nil, .nil, trivial⟩
  | p :: r, xs, h => by
    obtain ⟨v, t, rfl, hv, ht⟩ := Dts.cons h
    obtain ⟨ps, kvs, e, hp, hk⟩ := pairs_kvs ht
    obtain ⟨b, x, y, rfl, hb, hx, hy⟩ := Dt.pair hv
    have ex := hx.str
    subst ex
    exact ⟨b :: ps, (Sum.inr p.1, y) :: kvs, by rw [e]; rfl, .cons hb hp, rfl, hy, hk⟩
theorem kvs_pairs {H : Hp} : ∀ {prs : Prs} {kvs : List (Key × V)} {ts : List Addr}, KVs K H kvs prs → Paired (fun (t : Addr) (q : Key × V) => H t = some (.tup [kV q.1, q.2])) ts kvs → Dts K H (prs.map prPy) (ts.map V.ref)
  | [], [], _, _, .nil => dts_nil
  | p :: r, kv :: s, _, h, .cons e t => by
    rw [List.map_cons, List.map_cons]
    have e' := e
    rw [h.1] at e'
    exact dts_cons (dt_tup (.inl (.inl e')) (dts_cons dt_str (dts_cons h.2.1 dts_nil))) (kvs_pairs h.2.2 t)
  | [], _ :: _, _, h, _ => h.elim
  | _ :: _, [], _, h, _ => h.elim
def spChanged (K : PySem.W.Frag) : Sp := fun vs H Q _ => ∃ (a p nn : Addr) (prs : Prs) (xs : List V) (ns : List Str), vs = [.ref a, .ref p, .ref nn] ∧ H a = some (.lst xs) ∧ Dts K H (prs.map prPy) xs ∧ PrsOk prs ∧ prs.length ≤ 40 ∧ Pot H p ∧ Nms H nn ns ∧
  ∀ H' l prs' xs', Bt p H H' → Pot H' p → H' l = some (.lst xs') → Dts K H' (prs'.map prPy) xs' → PrsOk prs' → prs'.length ≤ prs.length + 2 → Q (.ref l) H'
theorem ok_changed (D : Df K mg "_law_changed" "_law_changed" s__law_changed ["pairs", "pot", "names"]) (B : NoB mg) (h_dict : mg "dict" = none) (C__law_take : Cal P w K mg base CX0 "_law_take" ["pot", "many"] 1 spTake)
    (C__law_source : Cal P w K mg base CX0 "_law_source" ["pot", "names"] 6 (spSource K)) : Cal P w K mg base CX0 "_law_changed" ["pairs", "pot", "names"] 7 (spChanged K) := by
  refine D.cal fun f fd F => F.ok sc__law_changed (fun vs H Q E h => ?_) (fun cdv A outer s H vs Q E hr h => ?_)
  · obtain ⟨_, _, _, _, _, _, rfl, _⟩ := h
    rfl
  · obtain ⟨a, p, nn, prs, xs, ns, rfl, ha, hx, hok, h8, hp, hN, q⟩ := h
    refine ⟨_, (pss_cons (ps_set (i := 3) sc__law_changed.nd rfl (.inl rfl) (pe_callTy (call_dictP rfl) (by rfl) h_dict (by decide +kernel) (pa_cons (pv 0) pa_nil)))
      (pss_cons (ps_for PassesOwn.never rfl (pi_range1 (by rfl) B.m_range (pa_cons (pe_op (op_addU K) pe_int (pe_cal C__law_take hr (by rfl) (pa_cons (pv 1) (pa_cons pe_int pa_nil)))) pa_nil)) (pg_name (i := 4) sc__law_changed.nd rfl (.inl rfl)) (pss_cons (ps_set (i := 5) sc__law_changed.nd rfl (.inl rfl) (pe_ix (ix_U K) (pv 2) (pe_cal C__law_take hr (by rfl) (pa_cons (pv 1) (pa_cons (pe_callB (call_lenU K) (by rfl) B.m_len (by decide +kernel) (pa_cons (pv 2) pa_nil)) pa_nil))) (fun _ _ => rfl)))
      (pss_one (ps_if (pt_cmpR (op_eqU K hr.units) (pe_cal C__law_take hr (by rfl) (pa_cons (pv 1) (pa_cons pe_int pa_nil))) pe_int (nomark _)) (pss_one (ps_expr (pe_dpop2 (pv 3) (pv 5) pe_non (by constructor <;> rfl)))) (pss_one (ps_dput (hu_of hr) (pv 3) (pv 5) (pe_cal C__law_source hr (by rfl) (pa_cons (pv 1) (pa_cons (pv 2) pa_nil))) rfl))))))
      (pss_one (ps_ret (LiI.pe_listItems rfl (pv 3) (by rfl) B.m_list (by decide +kernel)))))), ?_⟩
    obtain ⟨ps, kvs, rfl, hps, hk⟩ := pairs_kvs hx
    walk_at "rd"
    refine ⟨a, ps, kvs, rfl, .inl (.inl ha), hps, fun d nd => ?_⟩
    have hd0 : (upd H d (.dK (mergeK [] kvs))) d = some (.dK kvs) := by
      rw [upd_same, mergeK_new (by rw [List.nil_append, hk.keys]; exact hok.nd.map _ (fun _ _ h e => h (Sum.inr.inj e))), List.nil_append]
    have s0 : Same H (upd H d (.dK (mergeK [] kvs))) := same_new nd _
    generalize upd H d (.dK (mergeK [] kvs)) = H0 at hd0 s0
    have hpd : p ≠ d := hp.ne nd
    have hnd : nn ≠ d := ne_of_none hN.at' nd
    walk_at "rd"
    refine ⟨p, 2, rfl, hp.same s0, by decide, by decide, fun H1 dg b1 p1 hdg => ?_⟩
    walk_at "rd"
    refine f_range (n := 1 + dg) (by omega) (fun i σ H4 => ∃ (prs' : Prs) (kvs' : List (Key × V)) (y1 y2 : Option V), σ = [some (.ref a), some (.ref p), some (.ref nn), some (.ref d), y1, y2] ∧ Bt p H H4 ∧ Pot H4 p ∧ Nms H4 nn ns ∧ H4 d = some (.dK kvs') ∧ KVs K H4 kvs' prs' ∧ PrsOk prs' ∧ prs'.length ≤ prs.length + i) ?_ ?_ ?_ (by omega)
    · have b01 : Bt p H H1 := (Bt.same s0).trans b1
      exact ⟨prs, kvs, none, none, rfl, b01, p1, hN.bt hp b01, b1 _ _ (Ne.symm hpd) hd0, (hk.mono (.same s0)).mono ((hp.same s0).stay b1), hok, by omega⟩
    · rintro i σ H4 hi ⟨prs', kvs', y1, y2, rfl, b4, p4, hN4, e4, hk4, ok4, l4⟩
      walk_at "rd"
      refine i_len_l (.inl (.inl hN4.at')) ?_
      walk_at "rd"
      refine ⟨p, ns.length, by rw [List.length_map]; rfl, p4, by have := hN.ne; omega, by have := hN.le; omega, fun H5 g b5 p5 hg => ?_⟩
      have hN5 := hN4.bt p4 b5
      have e5 : H5 d = some (.dK kvs') := b5 _ _ (Ne.symm hpd) e4
      have k5 := hk4.mono (p4.stay b5)
      have b05 := b4.trans b5
      have hi' : ns[g]? = some ns[g] := List.getElem?_eq_getElem hg
      have hnm := hN.ok _ (List.getElem_mem hg)
      generalize ns[g] = nm at hi' hnm
      refine i_ix_l (.inl (.inl hN5.at')) (atI_nat (j := g) (v := .str nm) (by rw [List.getElem?_map, hi']; rfl)) ?_
      walk_at "rd"
      refine ⟨p, 4, rfl, p5, by decide, by decide, fun H6 g6 b6 p6 hg6 => ?_⟩
      have hN6 := hN5.bt p5 b6
      have e6 : H6 d = some (.dK kvs') := b6 _ _ (Ne.symm hpd) e5
      have k6 := k5.mono (p5.stay b6)
      have b06 := b05.trans b6
      walk_at "rd"
      refine ite2 (fun _ => ?_) fun _ => ?_
      · walk_at "rd"
        have fin : ∀ H7, Bt d H6 H7 → H7 d = some (.dK (dropK kvs' (Sum.inr nm))) → ∃ prs' kvs' y1 y2, [some (V.ref a), some (V.ref p), some (V.ref nn), some (V.ref d), some (V.int i), some (V.str nm)] = [some (V.ref a), some (V.ref p), some (V.ref nn), some (V.ref d), y1, y2] ∧ Bt p H H7 ∧ Pot H7 p ∧ Nms H7 nn ns ∧ H7 d = some (HO.dK kvs') ∧ KVs K H7 kvs' prs' ∧ PrsOk prs' ∧ List.length prs' ≤ prs.length + (i + 1) :=
          fun H7 b7 e7 => ⟨dropP prs' nm, _, _, _, rfl, b06.but nd b7, p6.but b7 hpd, hN6.but b7 hnd, e7, k6.drop.mono (.butD b7 e6), drop_ok ok4, by have := drop_len (prs := prs') (z := nm); omega⟩
        refine ⟨.ref d, rfl, d, rfl, .inl ⟨kvs', .inl e6⟩, .str nm, rfl, ?_⟩
        refine ⟨kvs', Sum.inr nm, e6, rfl, fun v hv => ?_, fun hv => ?_⟩
        · show ∃ prs' kvs' y1 y2, _
          exact fin _ Bt.upd upd_same
        · refine ⟨dropP prs' nm, kvs', _, _, rfl, b06, p6, hN6, e6, ?_, drop_ok ok4, by have := drop_len (prs := prs') (z := nm); omega⟩
          have := k6.drop (z := nm)
          rw [dropK_none hv] at this
          exact this
      · walk_at "rd"
        refine ⟨p, nn, ns, rfl, p6, hN6, fun H7 v sr b7 p7 hv hsr => ?_⟩
        walk_at "rd"
        have hN7 := hN6.bt p6 b7
        have e7 : H7 d = some (.dK kvs') := b7 _ _ (Ne.symm hpd) e6
        have k7 := k6.mono (p6.stay b7)
        have b07 := b06.trans b7
        have hkl := k7.length
        refine i_dpk e7 (szlt (by omega)) fun H8 b8 e8 => ?_
        exact ⟨putP prs' nm sr, _, _, _, rfl, b07.but nd b8, p7.but b8 hpd, hN7.but b8 hnd, e8, (k7.put hv).mono (.butD b8 e7), put_ok ok4 hnm.1 hsr.ok (by omega), by have := put_len (prs := prs') (z := nm) (s := sr); omega⟩
    · rintro σ H4 ⟨prs', kvs', y1, y2, rfl, b4, p4, hN4, e4, hk4, ok4, l4⟩
      walk_at "rd"
      refine ⟨d, kvs', rfl, e4, fun H5 l ts s5 nl nts _ el pts => ?_⟩
      have s5' : Same H4 H5 := s5
      exact q H5 l prs' (ts.map V.ref) (b4.trans (.same s5')) (p4.same s5') el (kvs_pairs (hk4.mono (.same s5')) pts) ok4 (by omega)
end
end Aw

/-! a slice with a step, of any list -/
namespace Aw
open PySem PySem.Spec PyProof.Rows L2
def pickL {α : Type} (xs : List α) (lo hi st : Option Int) : List α := (sliceRange (sliceBounds lo hi st xs.length).1 (sliceBounds lo hi st xs.length).2.1 (sliceBounds lo hi st xs.length).2.2).filterMap (xs[·]?)
theorem vals_at : ∀ {xs : List V} {us : List Value}, Vals xs us → ∀ j : Nat, (xs[j]? = none ∧ us[j]? = none) ∨ ∃ x u, xs[j]? = some x ∧ us[j]? = some u ∧ RelV x u
  | _, _, .nil, j => .inl ⟨by simp, by simp⟩
  | _, _, .cons r t, 0 => .inr ⟨_, _, rfl, rfl, r⟩
  | _, _, .cons r t, j + 1 => by
    rcases vals_at t j with ⟨a, b⟩ | ⟨x, u, a, b, c⟩
    · exact .inl ⟨by simpa using a, by simpa using b⟩
    · exact .inr ⟨x, u, by simpa using a, by simpa using b, c⟩
theorem vals_places {xs : List V} {us : List Value} (h : Vals xs us) : ∀ js : List Nat, Vals (js.filterMap (xs[·]?)) (js.filterMap (us[·]?))
  | [] => .nil
  | j :: js => by
    have ih := vals_places h js
    rcases vals_at h j with ⟨a, b⟩ | ⟨x, u, a, b, c⟩
    · simp only [List.filterMap_cons, a, b]; exact ih
    · simp only [List.filterMap_cons, a, b]; exact .cons c ih
theorem vals_pick {xs : List V} {us : List Value} (h : Vals xs us) (lo hi st : Option Int) : Vals (pickL xs lo hi st) (slicePick us.toArray lo hi st).toList := by
  have hl := h.length
  have e : (slicePick us.toArray lo hi st).toList = (sliceRange (sliceBounds lo hi st xs.length).1 (sliceBounds lo hi st xs.length).2.1 (sliceBounds lo hi st xs.length).2.2).filterMap (us[·]?) := by
    simp [slicePick, hl]
  rw [e]
  exact vals_places h _
theorem pickL_map {α β : Type} (f : α → β) (xs : List α) (lo hi st : Option Int) : pickL (xs.map f) lo hi st = (pickL xs lo hi st).map f := by
  unfold pickL
  rw [List.length_map, List.map_filterMap]
  congr 1
  funext j
  rw [List.getElem?_map]
theorem pickL_mem {α : Type} {xs : List α} {lo hi st : Option Int} {x : α} (h : x ∈ pickL xs lo hi st) : x ∈ xs := by
  obtain ⟨j, _, e⟩ := List.mem_filterMap.mp h
  exact List.mem_of_getElem? e
theorem pickL_len {α : Type} (xs : List α) (lo hi st : Option Int) : (pickL xs lo hi st).length ≤ xs.length := by
  have h := slicePick_size_le (xs.map fun _ => Value.none).toArray lo hi st
  have e : (slicePick (xs.map fun _ => Value.none).toArray lo hi st).toList = pickL (xs.map fun _ => Value.none) lo hi st := by simp [slicePick, pickL]
  rw [← Array.length_toList, e, pickL_map, List.length_map, List.size_toArray, List.length_map] at h
  exact h
def StepV (K : PySem.W.Frag) (x : V) (l t : Option Int) (H : Hp) (Q : VK) : Prop := t ≠ some 0 ∧ ∃ (a : Addr) (xs : List V), x = .ref a ∧ SqL K H a xs ∧ ∀ p, H p = none → Q (.ref p) (upd H p (.lst (pickL xs l none t)))
def tStepV (K : PySem.W.Frag) (te tl ts : TE) : TE := fun σ H Q => te σ H fun x H1 => tPart tl σ H1 fun l H2 => tPart ts σ H2 fun t H3 => StepV K x l t H3 Q
theorem i_stepV {K : PySem.W.Frag} {te tl ts : TE} {σ : L2.St} {H : Hp} {Q : VK} (h : te σ H fun x H1 => tPart tl σ H1 fun l H2 => tPart ts σ H2 fun t H3 => StepV K x l t H3 Q) : tStepV K te tl ts σ H Q := h
theorem i_stepv {K : PySem.W.Frag} {H : Hp} {Q : VK} {a : Addr} {xs : List V} {l t : Option Int} (s : SqL K H a xs) (ht : t ≠ some 0) (q : ∀ p H', H p = none → Same H H' → H' p = some (.lst (pickL xs l none t)) → Q (.ref p) H') : StepV K (.ref a) l t H Q :=
  ⟨ht, a, xs, rfl, s, fun p hp => q p _ hp (same_new hp _) upd_same⟩
theorem pe_stepV {X : Cx} {K : PySem.W.Frag} {e lo st : Expr} {te tl ts : TE} {p3 pos : Pos} (he : PE X e te) (hl : PE X lo tl) (hs : PE X st ts) (hK : X.K = K := by rfl) : PE X (.Subscript e (.Slice (some lo) none (some st) p3) pos) (tStepV K te tl ts) := by
  subst hK
  refine ⟨fun pins s σ H Q I h => ?_⟩
  refine Subscript_ (thn (he.run pins s σ H _ I h) fun v s1 ⟨x, H1, I1, r1, q1⟩ => ?_)
  refine wpAny_Slice (thn ((po_some hl).run pins s1 σ H1 _ I1 q1) fun vl s2 ⟨l, H2, I2, pl, q2⟩ => ?_)
  refine thn (po_none.run pins s2 σ H2 (fun o H3 => o = none ∧ H3 = H2) I2 ⟨rfl, rfl⟩) fun vu s3 ⟨u, H3, I3, pu, eu, e3⟩ => ?_
  subst eu e3
  refine thn ((po_some hs).run pins s3 σ H3 _ I3 q2) fun vs s4 ⟨o, H4, I4, ps, q3⟩ => ?_
  obtain ⟨ht, a, xs, ex, hx, q⟩ := q3
  subst ex
  cases r1
  have I5 : Inv X pins σ H4 { s4 with heap := s4.heap.push { cls := .type "slice", data := .fields #[vl, vu, vs] } } := I4.kept (t' := s4.toks) fun b ob q => Heap.get?_push_of_some _ q
  obtain ⟨its, r, hli, hz⟩ := I5.list hx
  have hlen := r.length
  show wpAny (model X.prog X.w) X.A (subscriptTail e (.Slice (some lo) none (some st) p3) (.ref a) (.ref s4.heap.objs.size)) (EP X pins σ Q) X.xe { s4 with heap := s4.heap.push { cls := .type "slice", data := .fields #[vl, vu, vs] } }
  refine tail_any (ops := [.ref a, .ref s4.heap.objs.size]) hli.isList.typeIs (PySem.slot_list_getitem.lookup) ?_ (by with_unfolding_all rfl)
  refine wpAny_getItem_list_slice hli.isList (Heap.IsSliceOf.new _ vl vu vs) pl pu ps ht ?_ (by rw [List.size_toArray]; omega)
  have hi := vals_pick r l none o
  refine ⟨.ref _, _, I5.laid (t' := s4.toks) (o := .lst (pickL xs l none o)) (fun b ob q => Heap.get?_push_of_some _ q) (Nat.le_refl _) ?_, rfl, q _ (I5.hok.fresh (Nat.le_refl _))⟩
  have hsz := pickL_len xs l none o
  refine ⟨?_, (slicePick its.toArray l none o).toList, 0, hi, Heap.get?_push_size _ ?_⟩
  · omega
  · rfl
def tStepV0 (K : PySem.W.Frag) (te ts : TE) : TE := fun σ H Q => te σ H fun x H1 => tPart ts σ H1 fun t H3 => StepV K x none t H3 Q
theorem i_stepV0 {K : PySem.W.Frag} {te ts : TE} {σ : L2.St} {H : Hp} {Q : VK} (h : te σ H fun x H1 => tPart ts σ H1 fun t H3 => StepV K x none t H3 Q) : tStepV0 K te ts σ H Q := h
theorem pe_stepV0 {X : Cx} {K : PySem.W.Frag} {e st : Expr} {te ts : TE} {p3 pos : Pos} (he : PE X e te) (hs : PE X st ts) (hK : X.K = K := by rfl) : PE X (.Subscript e (.Slice none none (some st) p3) pos) (tStepV0 K te ts) := by
  subst hK
  refine ⟨fun pins s σ H Q I h => ?_⟩
  refine Subscript_ (thn (he.run pins s σ H _ I h) fun v s1 ⟨x, H1, I1, r1, q1⟩ => ?_)
  refine wpAny_Slice (thn (po_none.run pins s1 σ H1 (fun o H3 => o = none ∧ H3 = H1) I1 ⟨rfl, rfl⟩) fun vl s2 ⟨l, H2, I2, pl, el, e2⟩ => ?_)
  subst el e2
  refine thn (po_none.run pins s2 σ H2 (fun o H3 => o = none ∧ H3 = H2) I2 ⟨rfl, rfl⟩) fun vu s3 ⟨u, H3, I3, pu, eu, e3⟩ => ?_
  subst eu e3
  refine thn ((po_some hs).run pins s3 σ H3 _ I3 q1) fun vs s4 ⟨o, H4, I4, ps, q3⟩ => ?_
  obtain ⟨ht, a, xs, ex, hx, q⟩ := q3
  subst ex
  cases r1
  have I5 : Inv X pins σ H4 { s4 with heap := s4.heap.push { cls := .type "slice", data := .fields #[vl, vu, vs] } } := I4.kept (t' := s4.toks) fun b ob q => Heap.get?_push_of_some _ q
  obtain ⟨its, r, hli, hz⟩ := I5.list hx
  have hlen := r.length
  show wpAny (model X.prog X.w) X.A (subscriptTail e (.Slice none none (some st) p3) (.ref a) (.ref s4.heap.objs.size)) (EP X pins σ Q) X.xe { s4 with heap := s4.heap.push { cls := .type "slice", data := .fields #[vl, vu, vs] } }
  refine tail_any (ops := [.ref a, .ref s4.heap.objs.size]) hli.isList.typeIs (PySem.slot_list_getitem.lookup) ?_ (by with_unfolding_all rfl)
  refine wpAny_getItem_list_slice hli.isList (Heap.IsSliceOf.new _ vl vu vs) pl pu ps ht ?_ (by rw [List.size_toArray]; omega)
  have hi := vals_pick r none none o
  refine ⟨.ref _, _, I5.laid (t' := s4.toks) (o := .lst (pickL xs none none o)) (fun b ob q => Heap.get?_push_of_some _ q) (Nat.le_refl _) ?_, rfl, q _ (I5.hok.fresh (Nat.le_refl _))⟩
  have hsz := pickL_len xs none none o
  refine ⟨?_, (slicePick its.toArray none none o).toList, 0, hi, Heap.get?_push_size _ ?_⟩
  · omega
  · rfl
end Aw

namespace Aw
open PySem PySem.Spec PyProof.Rows L2

local macro_rules | `(tactic| walk_at "rd1") => `(tactic| first
  | ((with_reducible apply i_var); exact rfl)
  | with_reducible refine i_c ?_
  | with_reducible refine i_op ?_
  | with_reducible refine i_un ?_
  | with_reducible refine i_test ?_
  | with_reducible refine i_tB ?_
  | with_reducible refine i_bl ?_
  | with_reducible refine i_and ?_
  | with_reducible refine i_or ?_
  | with_reducible refine i_not ?_
  | with_reducible refine i_andV ?_
  | with_reducible refine i_orV ?_
  | with_reducible refine i_notV ?_
  | with_reducible refine i_if ?_
  | with_reducible refine i_chain ?_
  | with_reducible refine i_nil ?_
  | with_reducible refine i_cons ?_
  | with_reducible refine i_tup ?_
  | with_reducible refine i_lst ?_
  | with_reducible refine i_cb ?_
  | with_reducible refine i_call ?_
  | with_reducible refine i_bm ?_
  | with_reducible refine i_m1 ?_
  | with_reducible refine i_m0 ?_
  | with_reducible refine i_exstr ?_
  | with_reducible refine i_sl ?_
  | with_reducible refine i_nopart ?_
  | with_reducible refine i_part ?_
  | with_reducible refine i_int ?_
  | with_reducible refine i_seq ?_
  | with_reducible refine i_next ?_
  | with_reducible refine i_asg ?_
  | with_reducible refine i_gname ?_
  | with_reducible refine i_ret ?_
  | with_reducible refine i_retN ?_
  | with_reducible refine i_drop ?_
  | with_reducible refine i_ifS ?_
  | with_reducible refine i_break ?_
  | with_reducible refine i_cont ?_
  | ((with_reducible apply i_aug); exact rfl)
  | with_reducible refine i_add_i ?_
  | with_reducible refine i_sub ?_
  | with_reducible refine i_neg ?_
  | with_reducible refine i_ipadd_i ?_
  | with_reducible refine i_ip ?_
  | with_reducible refine i_lt ?_
  | with_reducible refine i_le ?_
  | with_reducible refine i_gt ?_
  | with_reducible refine i_ge ?_
  | with_reducible refine i_lt_s ?_
  | with_reducible refine i_le_s ?_
  | with_reducible refine i_gt_s ?_
  | with_reducible refine i_ge_s ?_
  | with_reducible refine i_isN ?_
  | with_reducible refine i_notN ?_
  | with_reducible refine i_in_c ?_
  | with_reducible refine i_nin_c ?_
  | with_reducible refine i_gsub ?_
  | with_reducible refine i_gcons ?_
  | with_reducible refine i_gnil ?_
  | with_reducible refine i_iList ?_
  | with_reducible refine i_iTup ?_
  | with_reducible refine i_iStr ?_
  | with_reducible refine i_iRng1 ?_
  | with_reducible refine i_lc ?_
  | with_reducible refine i_for ?_
  | with_reducible refine i_yes ?_
  | with_reducible refine i_repl ?_
  | with_reducible refine i_meth ?_
  | with_reducible refine i_fld ?_
  | with_reducible refine i_sfld ?_
  | with_reducible refine i_din ?_
  | with_reducible refine i_dnin ?_
  | with_reducible refine i_dget ?_
  | with_reducible refine i_dput ?_
  | with_reducible refine i_joined ?_
  | with_reducible refine i_callS ?_
  | with_reducible refine i_xf ?_
  | with_reducible refine i_revL ?_
  | with_reducible refine i_items ?_
  | with_reducible refine i_stepL ?_
  | with_reducible refine i_stepV ?_
  | with_reducible refine i_stepV0 ?_
  | with_reducible refine i_make ?_
  | with_reducible refine i_fmt ?_
  | with_reducible refine i_jcons ?_
  | with_reducible refine i_jnil ?_
  | with_reducible refine i_iEnum ?_
  | with_reducible refine i_faug ?_
  | with_reducible refine i_dget2 ?_
  | with_reducible refine i_kin ?_
  | with_reducible refine i_kix ?_
  | with_reducible refine i_bm0 ?_
  | with_reducible refine i_meth ?_
  | with_reducible refine iteT ?_
  | with_reducible refine iteF ?_
  | with_reducible refine iteNT ?_
  | with_reducible refine iteNF ?_
  | ((with_reducible refine i_len_s ?_ ?_); (first | assumption | exact szl (by assumption)))
  | ((with_reducible refine i_sl_s ?_ ?_); (first | assumption | exact szl (by assumption)))
  | with_reducible refine i_int_b ?_
  | with_reducible refine i_abs ?_
  | with_reducible refine i_min2 ?_
  | with_reducible refine i_eq rfl ?_
  | with_reducible refine i_ne rfl ?_
  | with_reducible refine iteDR ?_
  | with_reducible refine iteRN ?_
  | with_reducible refine iteI1 ?_
  | with_reducible refine iteI2 ?_
  | with_reducible refine iteI3 ?_
  | with_reducible refine iteI4 ?_
  | with_reducible refine iteSN ?_
  | with_reducible refine iteNDR ?_
  | with_reducible refine iteNRN ?_
  | with_reducible refine iteNSN ?_
  | with_reducible refine iteST (by first | rfl | decide) ?_
  | with_reducible refine iteSF (by decide) ?_
  | with_reducible refine iteNST (by first | rfl | decide) ?_
  | with_reducible refine iteNSF (by decide) ?_)
local macro_rules | `(tactic| walk_at "rd") => `(tactic| repeat walk_at "rd1")

abbrev s_law : Stmt := topS 76
theorem sc_law : FnScope ["script", "names", "pairs", "project", "feet", "papers", "name", "beside", "looks", "pot", "turn", "other", "ask"] ["script"] (defScope s_law) := ⟨rfl, rfl, rfl, by decide +kernel, rfl, by decide +kernel, by decide +kernel⟩
section
variable {P : Program} {w : World} {K : PySem.W.Frag} {mg : Str → Option Value} {base : Heap}
theorem cutV_takeN {xs : List V} {n : Nat} : cutV xs none (some (n : Int)) = xs.take n := by
  unfold cutV
  rw [HT.sIx_none, HT.sIx_nat, List.drop_zero, Nat.sub_zero]
  first | exact (List.take_eq_take_min).symm | (rw [Nat.min_comm]; exact (List.take_eq_take_min).symm) | simp
theorem DMap.sub {H : Hp} {a : Addr} {R : Str → PyData → Prop} {zs ys : List Str} (h : DMap K H a R zs) (s : ∀ y ∈ ys, y ∈ zs) : DMap K H a R ys := let ⟨kvs, e, h⟩ := h; ⟨kvs, e, fun z hz => h z (s z hz)⟩
theorem pairs_ne {H : Hp} {prs : Prs} {xs : List V} (h : Dts K H (prs.map prPy) xs) (n : Int) : HO.lst xs ≠ .lst [.int n] := by
  intro e
  injection e with e
  subst e
  cases prs with
  | nil => have := h.nil; cases this
  | cons p r =>
    obtain ⟨v, t, e, hv, _⟩ := Dts.cons h
    obtain ⟨b, x, y, rfl, _⟩ := Dt.pair hv
    injection e with e _
    cases e
theorem qq_ok {prs : Prs} (h : PrsOk prs) (h8 : prs.length ≤ 8) (hin : ∀ n ∈ names prs, n ∈ eight) : PrsOk (prs ++ [qqP]) := by
  refine ⟨fun p hp => ?_, fun p hp => ?_, ?_, by rw [List.length_append]; show _ + 1 ≤ _; omega⟩
  · rcases List.mem_append.mp hp with hp | hp
    · exact h.nm p hp
    · rw [List.mem_singleton.mp hp]; decide +kernel
  · rcases List.mem_append.mp hp with hp | hp
    · exact h.sr p hp
    · rw [List.mem_singleton.mp hp]
      exact .inr ⟨.inl rfl, by decide +kernel⟩
  · unfold names at hin ⊢
    rw [List.map_append]
    refine List.nodup_append.mpr ⟨h.nd, List.nodup_cons.mpr ⟨by simp, List.nodup_nil⟩, ?_⟩
    intro x hx y hy e
    rw [List.mem_singleton.mp hy] at e
    have := hin x hx
    rw [e] at this
    exact absurd this (by decide +kernel)
def spLaw (K : PySem.W.Frag) : Sp := fun vs H Q _ => ∃ (a : Addr) (ns : List Int), vs = [.ref a] ∧ SqL K H a (ns.map V.int) ∧ ns.length ≤ 63 ∧ ∀ H', Q (.bl true) H'
theorem ok_law66 {CP f : Addr} {fd : FuncData} (F : Fun K "law" "law" s_law f fd) (TP : PCls K mg CP) (B : NoB mg) (C__law_cell_at : Cal P w K mg base CX0 "_law_cell_at" ["script", "k"] 1 (spCellAt K)) (C__law_pot : Cal P w K mg base CX0 "_law_pot" ["cell", "salt"] 1 spPot) (C__law_sources : Cal P w K mg base CX0 "_law_sources" ["script"] 7 (spSources K))
    (M_Project : CalI P w K mg base CX0 CP "Project" ["self", "sources"] 17 (spPrInit K CP)) (C__law_changed : Cal P w K mg base CX0 "_law_changed" ["pairs", "pot", "names"] 7 (spChanged K)) (C__law_right : Cal P w K mg base CX0 "_law_right" ["project", "other", "feet", "papers", "names"] 229 (spRight K CP))
    (C_foot_of : Cal P w K mg base CX0 "foot_of" ["project", "name"] 228 (spFoot K CP)) (C_paper_of : Cal P w K mg base CX0 "paper_of" ["project", "name"] 227 (spPaperOf K CP)) (C__law_is_alike : Cal P w K mg base CX0 "_law_is_alike" ["project", "other", "foot"] 3 (spIsAlike K CP)) : FnOk P w K mg base CX0 230 f fd ["script"] (spLaw K) := by
  refine F.ok sc_law (fun vs H Q E h => ?_) (fun cdv A outer s H vs Q E hr h => ?_)
  · obtain ⟨_, _, rfl, _⟩ := h
    rfl
  · obtain ⟨a, ns, rfl, hs, hn, q⟩ := h
    refine ⟨_, (pss_cons (ps_set (i := 1) sc_law.nd rfl (.inl rfl) (pe_slice (sl_U K) (pe_lst (pa_cons pe_str (pa_cons pe_str (pa_cons pe_str (pa_cons pe_str (pa_cons pe_str (pa_cons pe_str (pa_cons pe_str (pa_cons pe_str pa_nil))))))))) po_none (po_some (pe_op (op_addU K) pe_int (pe_op op_modU (pe_cal C__law_cell_at hr (by rfl) (pa_cons (pv 0) (pa_cons pe_int pa_nil))) pe_int)))))
      (pss_cons (ps_set (i := 2) sc_law.nd rfl (.inl rfl) (pe_cal C__law_sources hr (by rfl) (pa_cons (pv 0) pa_nil)))
      (pss_cons (ps_set (i := 3) sc_law.nd rfl (.inl rfl) (pe_ical M_Project hr (by rfl) (pa_cons (pe_callTy (call_tupU K) (by rfl) B.m_tuple (by decide +kernel) (pa_cons (pv 2) pa_nil)) pa_nil)))
      (pss_cons (ps_set (i := 4) sc_law.nd rfl (.inl rfl) pe_dnewK)
      (pss_cons (ps_set (i := 5) sc_law.nd rfl (.inl rfl) pe_dnewK)
      (pss_cons (ps_for PassesOwn.never rfl (pi_listU K (pv 1)) (pg_name (i := 6) sc_law.nd rfl (.inl rfl)) (pss_cons (ps_dput (hu_of hr) (pv 4) (pv 6) (pe_cal C_foot_of hr (by rfl) (pa_cons (pv 3) (pa_cons (pv 6) pa_nil))) rfl)
      (pss_one (ps_dput (hu_of hr) (pv 5) (pv 6) (pe_cal C_paper_of hr (by rfl) (pa_cons (pv 3) (pa_cons (pv 6) pa_nil))) rfl))))
      (pss_cons (ps_set (i := 7) sc_law.nd rfl (.inl rfl) (pe_ical M_Project hr (by rfl) (pa_cons (pe_callTy (call_tupU K) (by rfl) B.m_tuple (by decide +kernel) (pa_cons (pe_op (op_addU K) (pv 2) (pe_lst (pa_cons (pe_tup (pa_cons pe_str (pa_cons (pe_tup (pa_cons pe_str (pa_cons pe_str pa_nil))) pa_nil))) pa_nil))) pa_nil)) pa_nil)))
      (pss_cons (ps_for PassesOwn.never rfl (pi_listU K (pv 1)) (pg_name (i := 6) sc_law.nd rfl (.inl rfl)) (pss_cons (ps_set (i := 8) sc_law.nd rfl (.inl rfl) (pe_callB (call_lenU K) (by rfl) B.m_len (by decide +kernel) (pa_cons (pe_lc (own := [("ask", 12)]) (by rfl) sc_law.nd (pi_tupU K (pe_ix (ix_U K) (pe_dget (hu_of hr) (pv 4) (pv 6) (fun _ _ => rfl)) pe_int (fun _ _ => rfl))) (blkOk_by (own := [("ask", 12)]) (N := ["script", "names", "pairs", "project", "feet", "papers", "name", "beside", "looks", "pot", "turn", "other", "ask"]) (sc := defScope s_law) (by decide +kernel)) (fun _ _ _ _ _ => pg_name (i := 12) sc_law.nd rfl (Or.inl rfl)) (fun _ _ _ _ _ => pts_one (PW.pt (pw_and (pt_cmpR (op_eqU K hr.units) (pe_ix (ix_U K) (pv 12) pe_int (fun _ _ => rfl)) pe_str (nomark _)) (pw_and1 (pt_val (pe_m1 PySem.F.slot_str_startswith PySem.F.type_str_startswith mt_startswith pe_str (pe_ix (ix_U K) (pv 12) pe_int (fun _ _ => rfl)))))))) (fun _ _ _ _ _ => (pv 12))) pa_nil)))
      (pss_one (ps_if (PW.pt (pw_and (pt_cmpR (op_eqU K hr.units) (pv 8) pe_int (nomark _)) (pw_and1 (pt_not (pt_val (pe_cal C__law_is_alike hr (by rfl) (pa_cons (pv 3) (pa_cons (pv 7) (pa_cons (pe_dget (hu_of hr) (pv 4) (pv 6) (fun _ _ => rfl)) pa_nil))))))))) (pss_one (ps_ret pe_bl)) pss_nil))))
      (pss_cons (ps_if (pt_not (pt_val (pe_cal C__law_right hr (by rfl) (pa_cons (pv 3) (pa_cons (pv 3) (pa_cons (pv 4) (pa_cons (pv 5) (pa_cons (pe_slice (sl_U K) (pv 1) po_none (po_some pe_int)) pa_nil)))))))) (pss_one (ps_ret pe_bl)) pss_nil)
      (pss_cons (ps_if (pt_not (pt_val (pe_cal C__law_right hr (by rfl) (pa_cons (pv 3) (pa_cons (pv 7) (pa_cons (pv 4) (pa_cons (pv 5) (pa_cons (pe_stepV0 (K := K) (pv 1) pe_int) pa_nil)))))))) (pss_one (ps_ret pe_bl)) pss_nil)
      (pss_cons (ps_set (i := 9) sc_law.nd rfl (.inl rfl) (pe_cal C__law_pot hr (by rfl) (pa_cons (pe_op (op_addU K) (pe_callB (call_sumU K rfl) (by rfl) B.m_sum (by decide +kernel) (pa_cons (pv 0) pa_nil)) pe_int) (pa_cons pe_int pa_nil))))
      (pss_cons (ps_for PassesOwn.never rfl (pi_range1 (by rfl) B.m_range (pa_cons pe_int pa_nil)) (pg_name (i := 10) sc_law.nd rfl (.inl rfl)) (pss_cons (ps_set (i := 11) sc_law.nd rfl (.inl rfl) (pe_ical M_Project hr (by rfl) (pa_cons (pe_callTy (call_tupU K) (by rfl) B.m_tuple (by decide +kernel) (pa_cons (pe_cal C__law_changed hr (by rfl) (pa_cons (pv 2) (pa_cons (pv 9) (pa_cons (pv 1) pa_nil)))) pa_nil)) pa_nil)))
      (pss_one (ps_if (pt_not (pt_val (pe_cal C__law_right hr (by rfl) (pa_cons (pv 3) (pa_cons (pv 11) (pa_cons (pv 4) (pa_cons (pv 5) (pa_cons (pe_stepV (K := K) (pv 1) (pe_op op_modU (pv 10) pe_int) pe_int) pa_nil)))))))) (pss_one (ps_ret pe_bl)) pss_nil))))
      (pss_one (ps_ret pe_bl)))))))))))))), ?_⟩
    walk_at "rd"
    refine i_new_l (by show 8 ≤ sizeLine; decide) fun l1 H1 n1 s1 e1 => ?_
    walk_at "rd"
    refine ⟨a, ns, 0, rfl, s1.seq hs, fun c => ?_⟩
    walk_at "rd"
    refine i_mod (by decide) ?_
    walk_at "rd"
    obtain ⟨d, hd, hd8⟩ := dig c (m := 8) (by decide)
    have hd : c.fmod 8 = (d : Int) := hd
    rw [hd, show (1 : Int) + (d : Int) = ((1 + d : Nat) : Int) by omega]
    refine i_sl_l (.inl (.inl e1)) fun l2 H2 n2 s2 e2 => ?_
    rw [cutV_take (by show _ ≤ 8; omega)] at e2
    have e2 : H2 l2 = some (.lst ((eight.take (1 + d)).map V.str)) := by rw [e2, List.map_take]; rfl
    have hN : Nms H2 l2 (eight.take (1 + d)) := ⟨e2, by rw [List.length_take]; show 1 ≤ min _ 8; omega, by rw [List.length_take]; show min _ 8 ≤ 8; omega, fun n hn => eight_ok n (List.mem_of_mem_take hn)⟩
    generalize (eight.take (1 + d)) = nms at e2 hN
    have hle := hN.le
    walk_at "rd"
    have s12 := s1.trans s2
    refine ⟨a, ns, rfl, s12.seq hs, fun H3 l prs xs s3 nl el hx hpr hp8 hin hqp => ?_⟩
    walk_at "rd"
    refine i_tupof_l (.inl (.inl el)) fun t4 H4 n4 s4 e4 => ?_
    walk_at "rd"
    refine i_mko fun pa dx H5 n5 s5 e5 => ?_
    refine ⟨pa, dx, .ref t4, prs, rfl, e5, dt_tupX (s5 _ _ e4) (hx.mono (.same (s4.trans s5))), hpr, fun H6 k6 ip => ⟨rfl, ?_⟩⟩
    have s46 : Same H4 H6 := fun b o e => k6 b o (s5 _ _ e) (ne_of_none e n5)
    have s36 := s4.trans s46
    have el6 := s36 _ _ el
    have hx6 := hx.mono (.same s36)
    walk_at "rd"
    refine i_dnew fun fd7 H7 n7 s7 e7 => ?_
    walk_at "rd"
    refine i_dnew fun pd8 H8 n8 s8 e8 => ?_
    walk_at "rd"
    have s68 := s7.trans s8
    have nfp : fd7 ≠ pd8 := ne_of_none e7 n8
    have hN8 := (hN.same s3).same (s36.trans s68)
    have ip8 := ip.same s68
    have nf6 : H6 fd7 = none := n7
    have np6 : H6 pd8 = none := none_back s7 n8
    have l50 : prs.length ≤ 50 := by omega
    refine f_list (.inl (.inl hN8.at')) (fun i σ H9 => ∃ (y6 : Option V) (kf kp : List (Key × V)), σ = [some (.ref a), some (.ref l2), some (.ref l), some (.ref pa), some (.ref fd7), some (.ref pd8), y6, none, none, none, none, none, none] ∧ Same H6 H9 ∧ H9 fd7 = some (.dK kf) ∧ H9 pd8 = some (.dK kp) ∧ kf.length ≤ i ∧ kp.length ≤ i ∧
      (∀ z ∈ nms.take i, ∃ v d, valV kf (Sum.inr z : Key) = some v ∧ FootIs prs z d ∧ Dt K H9 d v) ∧ ∀ z ∈ nms.take i, ∃ v d, valV kp (Sum.inr z : Key) = some v ∧ PaperIs prs z d ∧ Dt K H9 d v) ?_ ?_ ?_ ?_
    · exact ⟨none, [], [], rfl, s68, s8 _ _ e7, e8, Nat.zero_le _, Nat.zero_le _, (fun z hz => by rw [List.take_zero] at hz; cases hz), (fun z hz => by rw [List.take_zero] at hz; cases hz)⟩
    · rintro i σ H9 _ ⟨y6, kf, kp, rfl, s9, _⟩
      exact .inl (.inl ((((hN.same s3).same s36).same s9).at'))
    · rintro i x σ H9 hx9 ⟨y6, kf, kp, rfl, s9, ef, ep, lf, lp, hF, hP⟩
      rw [List.getElem?_map] at hx9
      cases hzi : nms[i]? with
      | none => rw [hzi] at hx9; cases hx9
      | some z =>
      rw [hzi] at hx9
      cases (Option.some.inj hx9)
      have hil := (List.getElem?_eq_some_iff.mp hzi).1
      have hz := (hN.ok z (List.mem_of_getElem? hzi)).1
      walk_at "rd"
      refine ⟨pa, prs, z, rfl, ip.same s9, hpr, l50, hz, fun H10 v10 qs s10 pm pw hv10 => ?_⟩
      walk_at "rd"
      refine i_dpk (s10 _ _ ef) (szlt (by omega)) fun H11 b11 e11 => ?_
      have st11 : Stay H10 H11 := .butD b11 (s10 _ _ ef)
      have s611 : Same H6 H11 := Same.but (s9.trans s10) nf6 b11
      walk_at "rd"
      refine ⟨pa, prs, z, rfl, ip.same s611, hpr, l50, hz, fun H12 v12 s12' hv12 => ?_⟩
      walk_at "rd"
      have ep12 := s12' _ _ (b11 _ _ (Ne.symm nfp) (s10 _ _ ep))
      refine i_dpk ep12 (szlt (by omega)) fun H13 b13 e13 => ?_
      have st13 : Stay H12 H13 := .butD b13 ep12
      have stA : Stay H9 H13 := (Stay.same s10).trans (st11.trans ((Stay.same s12').trans st13))
      have l1 := length_putK kf (Sum.inr z : Key) v10
      have l2' := length_putK kp (Sum.inr z : Key) v12
      refine ⟨_, _, _, rfl, Same.but (s611.trans s12') np6 b13, b13 _ _ nfp (s12' _ _ e11), e13, by omega, by omega, fun y hy => ?_, fun y hy => ?_⟩
      · rw [valV_put]
        by_cases e : y = z
        · subst e
          rw [if_pos rfl]
          exact ⟨_, _, rfl, ⟨qs, pm, pw, rfl⟩, hv10.mono (st11.trans ((Stay.same s12').trans st13))⟩
        · rw [if_neg (fun h => e (Sum.inr.inj h))]
          rw [take_snoc hzi] at hy
          obtain ⟨v, d, g, r, t⟩ := hF y ((List.mem_append.mp hy).resolve_right fun h => e (List.mem_singleton.mp h))
          exact ⟨v, d, g, r, t.mono stA⟩
      · rw [valV_put]
        by_cases e : y = z
        · subst e
          rw [if_pos rfl]
          exact ⟨_, _, rfl, rfl, hv12.mono st13⟩
        · rw [if_neg (fun h => e (Sum.inr.inj h))]
          rw [take_snoc hzi] at hy
          obtain ⟨v, d, g, r, t⟩ := hP y ((List.mem_append.mp hy).resolve_right fun h => e (List.mem_singleton.mp h))
          exact ⟨v, d, g, r, t.mono stA⟩
    · rintro σ H9 ⟨y6, kf, kp, rfl, s9, ef, ep, lf, lp, hF, hP⟩
      rw [List.length_map, List.take_of_length_le (Nat.le_refl _)] at hF hP
      have DF : DMap K H9 fd7 (FootIs prs) nms := ⟨kf, ef, hF⟩
      have DP : DMap K H9 pd8 (PaperIs prs) nms := ⟨kp, ep, hP⟩
      clear hF hP
      have el9 := s9 _ _ el6
      have hx9 := hx6.mono (.same s9)
      have ip9 := ip.same s9
      have hN9 := (((hN.same s3).same s36).same s9)
      have hxl := hx9.length
      rw [List.length_map] at hxl
      have s09 := s12.trans (s3.trans (s36.trans s9))
      walk_at "rd"
      refine i_new_t (by show 2 ≤ sizeLine; decide) fun t10 H10 n10 s10 e10 => ?_
      walk_at "rd"
      refine i_new_t (by show 2 ≤ sizeLine; decide) fun t11 H11 n11 s11 e11 => ?_
      walk_at "rd"
      refine i_new_l (by show 1 ≤ sizeLine; decide) fun l12 H12 n12 s12' e12 => ?_
      have s9_12 := s10.trans (s11.trans s12')
      refine i_add_l (s9_12 _ _ el9) e12 (szl (by show _ + 1 ≤ _; omega)) fun l13 H13 n13 s13 e13 => ?_
      walk_at "rd"
      refine i_tupof_l (.inl (.inl e13)) fun t14 H14 n14 s14 e14 => ?_
      walk_at "rd"
      refine i_mko fun pb dx2 H15 n15 s15 e15 => ?_
      have s9_15 := s9_12.trans (s13.trans (s14.trans s15))
      have dqq : Dt K H11 (prPy qqP) (.ref t11) := dt_tupX e11 (dts_cons dt_str (dts_cons ((dt_tupX e10 (dts_cons dt_str (dts_cons dt_str dts_nil))).mono (.same s11)) dts_nil))
      have hx15 : Dts K H15 ((prs ++ [qqP]).map prPy) (xs ++ [.ref t11]) := by
        rw [List.map_append]
        exact (hx9.mono (.same s9_15)).append (dts_cons (dqq.mono (.same (s12'.trans (s13.trans (s14.trans s15))))) dts_nil)
      have hprB := qq_ok hpr hp8 hin
      refine ⟨pb, dx2, .ref t14, prs ++ [qqP], rfl, e15, dt_tupX (s15 _ _ e14) hx15, hprB, fun H16 k16 ipb => ⟨rfl, ?_⟩⟩
      have s14_16 : Same H14 H16 := fun b o e => k16 b o (s15 _ _ e) (ne_of_none e n15)
      have s9_16 := s9_12.trans (s13.trans (s14.trans s14_16))
      have lB : (prs ++ [qqP]).length ≤ 9 := by rw [List.length_append]; show _ + 1 ≤ 9; omega
      have ip16 := ip9.same s9_16
      have DF16 := DF.same s9_16
      have DP16 := DP.same s9_16
      have hN16 := hN9.same s9_16
      have el16 := s9_16 _ _ el9
      have hx16 := hx9.mono (.same s9_16)
      have s016 := s09.trans s9_16
      clear DF DP hN9 hx15 dqq
      walk_at "rd"
      refine f_list (.inl (.inl hN16.at')) (fun i σ H17 => ∃ (y6 y8 : Option V), σ = [some (.ref a), some (.ref l2), some (.ref l), some (.ref pa), some (.ref fd7), some (.ref pd8), y6, some (.ref pb), y8, none, none, none, none] ∧ Same H16 H17) ?_ ?_ ?_ ?_
      · exact ⟨_, none, rfl, .refl _⟩
      · rintro i σ H17 _ ⟨y6, y8, rfl, s17⟩
        exact .inl (.inl (s17 _ _ hN16.at'))
      · rintro i x σ H17 hx17 ⟨y6, y8, rfl, s17⟩
        rw [List.getElem?_map] at hx17
        cases hzi : nms[i]? with
        | none => rw [hzi] at hx17; cases hx17
        | some z =>
        rw [hzi] at hx17
        cases (Option.some.inj hx17)
        have hzm := List.mem_of_getElem? hzi
        obtain ⟨hz, _, hqz⟩ := hN.ok z hzm
        obtain ⟨kf, ef, hF⟩ := DF16
        obtain ⟨vf, df, gf, rf, tf⟩ := hF z hzm
        obtain ⟨qs, pm, pw, rfl⟩ := id rf
        have hkz : ∀ q ∈ qs, KzOk q := fun q hq => foot_looks (paper_ok hpr hz) (fun q h => (List.not_mem_nil h).elim) q (pm.mem_iff.mp hq)
        obtain ⟨fl1, fl2, fl3⟩ := foot_lens hpr l50 hz
        obtain ⟨fq1, fq2⟩ := foot_q hpr l50 hqp hqz
        obtain ⟨fb, vn, vl, rfl, hfb, hvn, hvl⟩ := Dt.pair (show Dt K H16 (.tuple [.tuple ((srtN (footOf (paperD prs z) z).1).map .str), .tuple (qs.map kzPy)]) vf from tf)
        have gdf : ∀ {H' : Hp}, Same H16 H' → ∀ {Q' : VK}, Q' (.ref fb) H' → DGK (.ref fd7) (.str z) H' Q' := fun {H'} s' {Q'} h => i_dgk (s' _ _ ef) gf h
        obtain ⟨la, xl, rfl, hsl, hql⟩ := hvl.tup
        have hll := hql.length
        rw [List.length_map] at hll
        have hqsl : qs.length ≤ 16000 := by rw [pm.length_eq]; omega
        walk_at "rd"
        refine gdf s17 ?_
        walk_at "rd"
        refine i_ix_t (sqT_tt (.same s17) hfb) (atI_nat (j := 1) rfl) ?_
        refine c_tup (sqT_tt (.same s17) hsl) (szlt (by omega)) (fun D j acc H18 => Same H17 H18 ∧ (acc = [] → ∀ q ∈ qs.take j, q.1 = "names" → Txt.startswith (Str.ofString "qq9") q.2 = false)) ?_ ?_ ?_ ?_
        · exact fun D H18 _ s18 _ => ⟨s18, fun _ q hq => by rw [List.take_zero] at hq; cases hq⟩
        · exact fun D j acc H18 _ h => sqT_tt (.same (s17.trans h.1)) hsl
        · rintro D j x acc H18 hD hx18 hl18 hj18 ha ⟨s18, hacc⟩
          obtain ⟨dd, hdi, hdx⟩ := hql.get hx18
          rw [List.getElem?_map] at hdi
          cases hqi : qs[j]? with
          | none => rw [hqi] at hdi; cases hdi
          | some q0 =>
          rw [hqi] at hdi
          cases (Option.some.inj hdi)
          have s1618 := s17.trans s18
          obtain ⟨ra, k1, k2, rfl, hra, hk1, hk2⟩ := Dt.pair (show Dt K H18 (.tuple [.str q0.1, .str q0.2]) x from hdx.mono (.same s1618))
          have e := hk1.str
          subst e
          have e := hk2.str
          subst e
          walk_at "rd"
          refine ⟨rfl, ?_⟩
          walk_at "rd"
          refine i_ix_t hra (atI_nat (j := 0) rfl) ?_
          walk_at "rd"
          have skip : (q0.1 = "names" → Txt.startswith (Str.ofString "qq9") q0.2 = false) → CN (fun (D : Addr) (j : Nat) (acc : List V) (H18 : Hp) => Same H17 H18 ∧ (acc = [] → ∀ q ∈ qs.take j, q.1 = "names" → Txt.startswith (Str.ofString "qq9") q.2 = false)) D (j + 1) H18 := fun hno => by
            refine ⟨acc, Nat.le_succ_of_le hl18, ha, s18, fun e q hq => ?_⟩
            rw [take_snoc hqi] at hq
            rcases List.mem_append.mp hq with hq | hq
            · exact hacc e q hq
            · rw [List.mem_singleton.mp hq]; exact hno
          by_cases hk : q0.1 = "names"
          · rw [decide_eq_true (p := V.str q0.1 = V.str (Str.ofString "names")) (by rw [hk])]
            walk_at "rd"
            refine i_ix_t hra (atI_nat (j := 1) rfl) ?_
            walk_at "rd"
            refine ⟨_, _, rfl, rfl, ?_⟩
            cases hst : Txt.startswith (Str.ofString "qq9") q0.2 with
            | true =>
              walk_at "rd"
              refine i_ck ha hl18 hj18 fun H19 b19 e19 => ⟨Same.but s18 hD b19, fun e => ?_⟩
              exact absurd e (by simp)
            | false =>
              walk_at "rd"
              exact skip fun _ => hst
          · rw [decide_eq_false (p := V.str q0.1 = V.str (Str.ofString "names")) (fun e => hk (by injection e))]
            walk_at "rd"
            exact skip fun h => absurd h hk
        · rintro D acc H18 hD hl18 ha ⟨s18, hacc⟩
          rw [List.take_of_length_le (by omega)] at hacc
          walk_at "rd"
          refine i_len_l (.inl (.inl ha)) ?_
          have s1618 := s17.trans s18
          walk_at "rd"
          by_cases h0 : acc = []
          · rw [decide_eq_true (p := V.int ((acc.length : Nat) : Int) = V.int 0) (by rw [h0]; rfl)]
            walk_at "rd"
            refine gdf s1618 ?_
            walk_at "rd"
            refine ⟨pa, pb, prs, prs ++ [qqP], .ref fb, _, qs, rfl, ip16.same s1618, ipb.same s1618, hpr, hprB, tf.mono (.same s1618), hkz, by rw [(srtN_perm _).length_eq]; omega, by rw [pm.length_eq]; omega, fun H19 b19 s19 hb19 => ?_⟩
            have hal : Alk prs (prs ++ [qqP]) (srtN (footOf (paperD prs z) z).1) qs := alk_beside (fun n hn => fq1 n ((srtN_perm _).mem_iff.mp hn)) (fun q hq => fq2 q (pm.mem_iff.mp hq)) hkz (hacc h0)
            rw [hb19.mpr hal]
            walk_at "rd"
            exact ⟨_, _, rfl, s1618.trans s19⟩
          · rw [decide_eq_false (p := V.int ((acc.length : Nat) : Int) = V.int 0) (fun e => h0 (List.eq_nil_of_length_eq_zero (by injection e with e; omega)))]
            walk_at "rd"
            exact ⟨_, _, rfl, s1618⟩
      · rintro σ H17 ⟨y6, y8, rfl, s17⟩
        walk_at "rd"
        have hN17 := hN16.same s17
        refine i_sl_l (.inl (.inl hN17.at')) fun l18 H18 n18 s18 e18 => ?_
        rw [show (2 : Int) = ((2 : Nat) : Int) from rfl, cutV_takeN, ← List.map_take] at e18
        have lt2 : (nms.take 2).length ≤ 60 := by rw [List.length_take]; omega
        have s1618 := s17.trans s18
        walk_at "rd"
        refine ⟨pa, pa, fd7, pd8, l18, prs, prs, nms.take 2, rfl, ip16.same s1618, ip16.same s1618, hpr, hpr, l50, l50, e18, fun z hz => (hN.ok z (List.mem_of_mem_take hz)).1, lt2, (DF16.same s1618).sub fun y hy => List.mem_of_mem_take hy, (DP16.same s1618).sub fun y hy => List.mem_of_mem_take hy, fun H19 s19 => ?_⟩
        walk_at "rd"
        have s1619 := s1618.trans s19
        have hN19 := hN16.same s1619
        refine i_stepv (.inl (.inl hN19.at')) (by decide) fun l20 H20 n20 s20 e20 => ?_
        rw [pickL_map] at e20
        have hsub : ∀ z ∈ pickL nms none none (some 2), z ∈ nms := fun z hz => pickL_mem hz
        have hln := pickL_len nms none none (some 2)
        generalize pickL nms none none (some 2) = zs at e20 hsub hln
        walk_at "rd"
        have s1620 := s1619.trans s20
        refine ⟨pa, pb, fd7, pd8, l20, prs, prs ++ [qqP], zs, rfl, ip16.same s1620, ipb.same s1620, hpr, hprB, l50, by omega, e20, fun z hz => (hN.ok z (hsub z hz)).1, by omega, (DF16.same s1620).sub hsub, (DP16.same s1620).sub hsub, fun H21 s21 => ?_⟩
        walk_at "rd"
        have s1621 := s1620.trans s21
        refine i_sum ((s016.trans s1621).seq hs) ?_
        walk_at "rd"
        refine ⟨_, 100, rfl, by omega, fun H22 p n22 s22 hp => ?_⟩
        walk_at "rd"
        have s1622 := s1621.trans s22
        have hN22 := hN16.same s1622
        have ip22 := ip16.same s1622
        have DF22 := DF16.same s1622
        have DP22 := DP16.same s1622
        have el22 := s1622 _ _ el16
        have hx22 := hx16.mono (.same s1622)
        obtain ⟨n0, en0⟩ := id hp
        refine f_range (n := 6) (by decide) (fun i σ H23 => ∃ (y10 y11 : Option V), σ = [some (.ref a), some (.ref l2), some (.ref l), some (.ref pa), some (.ref fd7), some (.ref pd8), y6, some (.ref pb), y8, some (.ref p), y10, y11, none] ∧ Bt p H22 H23 ∧ Pot H23 p) ?_ ?_ ?_ rfl
        · exact ⟨none, none, rfl, .same (.refl _), hp⟩
        · rintro i σ H23 hi ⟨y10, y11, rfl, b23, p23⟩
          walk_at "rd"
          refine ⟨l, p, l2, prs, xs, nms, rfl, b23.ne en0 el22 (pairs_ne hx22 n0), hx22.mono (hp.stay b23), hpr, by omega, p23, hN22.bt hp b23, fun H24 l24 prs24 xs24 b24 p24 e24 d24 ok24 le24 => ?_⟩
          walk_at "rd"
          refine i_tupof_l (.inl (.inl e24)) fun t25 H25 n25 s25 e25 => ?_
          walk_at "rd"
          refine i_mko fun pc dx3 H26 n26 s26 e26 => ?_
          refine ⟨pc, dx3, .ref t25, prs24, rfl, e26, dt_tupX (s26 _ _ e25) (d24.mono (.same (s25.trans s26))), ok24, fun H27 k27 ipc => ⟨rfl, ?_⟩⟩
          have s25_27 : Same H25 H27 := fun b o e => k27 b o (s26 _ _ e) (ne_of_none e n26)
          have s24_27 := s25.trans s25_27
          have p27 := p24.same s24_27
          have b27 := (b23.trans b24).trans (.same s24_27)
          have hN27 := hN22.bt hp b27
          walk_at "rd"
          refine i_mod (by decide) ?_
          walk_at "rd"
          refine i_stepv (.inl (.inl hN27.at')) (by decide) fun l28 H28 n28 s28 e28 => ?_
          rw [pickL_map] at e28
          have hsub : ∀ z ∈ pickL nms (some ((i : Int).fmod 2)) none (some 2), z ∈ nms := fun z hz => pickL_mem hz
          have hln := pickL_len nms (some ((i : Int).fmod 2)) none (some 2)
          generalize pickL nms (some ((i : Int).fmod 2)) none (some 2) = zs at e28 hsub hln
          walk_at "rd"
          have b28 := b27.trans (.same s28)
          refine ⟨pa, pc, fd7, pd8, l28, prs, prs24, zs, rfl, ip22.but b28 en0, ipc.same s28, hpr, ok24, l50, by omega, e28, fun z hz => (hN.ok z (hsub z hz)).1, by omega, (DF22.pot hp b28).sub hsub, (DP22.pot hp b28).sub hsub, fun H29 s29 => ?_⟩
          walk_at "rd"
          exact ⟨_, _, rfl, b28.trans (.same s29), p27.same (s28.trans s29)⟩
        · rintro σ H23 ⟨y10, y11, rfl, b23, p23⟩
          walk_at "rd"
          exact q H23
end
end Aw

namespace Aw
open PySem PySem.Spec PyProof.Rows L2
theorem all_ok {P : Program} {w : World} {K : PySem.W.Frag} {h : Heap} {mg : Str → Option Value} (X : K.In h) (G : h.Ns mainGlobals mg) (c : SaysH hd w K) :
    ∃ fd : FuncData, (∀ (s : Shared) (u : Value), BindsTo s fd ⟨[u], []⟩ [("script", u)]) ∧ ∀ base : Heap, K.In base → base.Ns mainGlobals mg → FnOk P w K mg base CX0 230 (He.ga K "law") fd ["script"] (spLaw K) := by
  have D_is_plain : Df K mg "is_plain" "is_plain" s_is_plain ["value"] := c.df X G 0 rfl (fun _ _ _ _ _ _ us hl => match us, hl with | [_], _ => rfl)
  have D_room_left : Df K mg "room_left" "room_left" s_room_left ["value", "deep", "room"] := c.df X G 1 rfl (fun _ _ _ _ _ _ us hl => match us, hl with | [_, _, _], _ => rfl)
  have D_is_tree : Df K mg "is_tree" "is_tree" s_is_tree ["value"] := c.df X G 2 rfl (fun _ _ _ _ _ _ us hl => match us, hl with | [_], _ => rfl)
  have D_is_name : Df K mg "is_name" "is_name" s_is_name ["value"] := c.df X G 3 rfl (fun _ _ _ _ _ _ us hl => match us, hl with | [_], _ => rfl)
  have D_box_in : Df K mg "box_in" "box_in" s_box_in ["word"] := c.df X G 4 rfl (fun _ _ _ _ _ _ us hl => match us, hl with | [_], _ => rfl)
  have D_line_number_in : Df K mg "line_number_in" "line_number_in" s_line_number_in ["word", "many"] := c.df X G 5 rfl (fun _ _ _ _ _ _ us hl => match us, hl with | [_, _], _ => rfl)
  have D_text_line : Df K mg "text_line" "text_line" s_text_line ["line"] := c.df X G 6 rfl (fun _ _ _ _ _ _ us hl => match us, hl with | [_], _ => rfl)
  have D_line_row : Df K mg "line_row" "line_row" s_line_row ["line", "many"] := c.df X G 7 rfl (fun _ _ _ _ _ _ us hl => match us, hl with | [_, _], _ => rfl)
  have D_bad_line : Df K mg "bad_line" "bad_line" s_bad_line ["tree"] := c.df X G 8 rfl (fun _ _ _ _ _ _ us hl => match us, hl with | [_], _ => rfl)
  have D_is_rule : Df K mg "is_rule" "is_rule" s_is_rule ["value"] := c.df X G 9 rfl (fun _ _ _ _ _ _ us hl => match us, hl with | [_], _ => rfl)
  have D_rule_rows : Df K mg "rule_rows" "rule_rows" s_rule_rows ["tree"] := c.df X G 10 rfl (fun _ _ _ _ _ _ us hl => match us, hl with | [_], _ => rfl)
  have D_is_answer : Df K mg "is_answer" "is_answer" s_is_answer ["ask", "tree"] := c.df X G 11 rfl (fun _ _ _ _ _ _ us hl => match us, hl with | [_, _], _ => rfl)
  have D_joined_up : Df K mg "joined_up" "joined_up" s_joined_up ["word", "one", "two"] := c.df X G 12 rfl (fun _ _ _ _ _ _ us hl => match us, hl with | [_, _, _], _ => rfl)
  have D_parted_by : Df K mg "parted_by" "parted_by" s_parted_by ["tree", "between"] := c.df X G 13 rfl (fun _ _ _ _ _ _ us hl => match us, hl with | [_, _], _ => rfl)
  have D_glued_by : Df K mg "glued_by" "glued_by" s_glued_by ["tree", "between"] := c.df X G 14 rfl (fun _ _ _ _ _ _ us hl => match us, hl with | [_, _], _ => rfl)
  have D_taken_from : Df K mg "taken_from" "taken_from" s_taken_from ["word", "tree"] := c.df X G 15 rfl (fun _ _ _ _ _ _ us hl => match us, hl with | [_, _], _ => rfl)
  have D_made_by : Df K mg "made_by" "made_by" s_made_by ["word", "parts", "boxes", "own"] := c.df X G 16 rfl (fun _ _ _ _ _ _ us hl => match us, hl with | [_, _, _, _], _ => rfl)
  have D_goes_there : Df K mg "goes_there" "goes_there" s_goes_there ["word", "parts", "boxes"] := c.df X G 17 rfl (fun _ _ _ _ _ _ us hl => match us, hl with | [_, _, _], _ => rfl)
  have D_Machine___init__ : DfI K mg (He.ga K "Machine") "Machine" "Machine.__init__" s_Machine___init__ ["self", "rule", "own"] := c.dfi X G 18 44 rfl rfl rfl (fun _ _ _ _ _ _ us hl => match us, hl with | [_, _, _], _ => rfl)
  have D_Machine_now : DfM K (He.ga K "Machine") "now" "Machine.now" s_Machine_now ["self"] := c.dfm 19 rfl (fun _ _ _ _ _ _ us hl => match us, hl with | [_], _ => rfl)
  have D_Machine_asked : DfM K (He.ga K "Machine") "asked" "Machine.asked" s_Machine_asked ["self"] := c.dfm 20 rfl (fun _ _ _ _ _ _ us hl => match us, hl with | [_], _ => rfl)
  have D_Machine_answer : DfM K (He.ga K "Machine") "answer" "Machine.answer" s_Machine_answer ["self", "tree"] := c.dfm 21 rfl (fun _ _ _ _ _ _ us hl => match us, hl with | [_, _], _ => rfl)
  have D_Machine_fill : DfM K (He.ga K "Machine") "fill" "Machine.fill" s_Machine_fill ["self", "box", "tree"] := c.dfm 22 rfl (fun _ _ _ _ _ _ us hl => match us, hl with | [_, _, _], _ => rfl)
  have D_Machine_wait_at : DfM K (He.ga K "Machine") "wait_at" "Machine.wait_at" s_Machine_wait_at ["self", "word", "held"] := c.dfm 23 rfl (fun _ _ _ _ _ _ us hl => match us, hl with | [_, _, _], _ => rfl)
  have D_Machine_do_line : DfM K (He.ga K "Machine") "do_line" "Machine.do_line" s_Machine_do_line ["self"] := c.dfm 24 rfl (fun _ _ _ _ _ _ us hl => match us, hl with | [_], _ => rfl)
  have D_Machine_go_on : DfM K (He.ga K "Machine") "go_on" "Machine.go_on" s_Machine_go_on ["self"] := c.dfm 25 rfl (fun _ _ _ _ _ _ us hl => match us, hl with | [_], _ => rfl)
  have D_look_at_asked_name : Df K mg "look_at_asked_name" "look_at_asked_name" s_look_at_asked_name ["name"] := c.df X G 26 rfl (fun _ _ _ _ _ _ us hl => match us, hl with | [_], _ => rfl)
  have D_answer_by : Df K mg "answer_by" "answer_by" s_answer_by ["end"] := c.df X G 27 rfl (fun _ _ _ _ _ _ us hl => match us, hl with | [_], _ => rfl)
  have D_PlainWalk___init__ : DfI K mg (He.ga K "PlainWalk") "PlainWalk" "PlainWalk.__init__" s_PlainWalk___init__ ["self", "project"] := c.dfi X G 28 50 rfl rfl rfl (fun _ _ _ _ _ _ us hl => match us, hl with | [_, _], _ => rfl)
  have D_PlainWalk_answer : DfM K (He.ga K "PlainWalk") "answer" "PlainWalk.answer" s_PlainWalk_answer ["self", "name"] := c.dfm 29 rfl (fun _ _ _ _ _ _ us hl => match us, hl with | [_, _], _ => rfl)
  have D_PlainWalk_asked : DfM K (He.ga K "PlainWalk") "asked" "PlainWalk.asked" s_PlainWalk_asked ["self", "name"] := c.dfm 30 rfl (fun _ _ _ _ _ _ us hl => match us, hl with | [_, _], _ => rfl)
  have D_PlainWalk_gone_through : DfM K (He.ga K "PlainWalk") "gone_through" "PlainWalk.gone_through" s_PlainWalk_gone_through ["self", "name", "source"] := c.dfm 31 rfl (fun _ _ _ _ _ _ us hl => match us, hl with | [_, _, _], _ => rfl)
  have D_PlainWalk_run_by : DfM K (He.ga K "PlainWalk") "run_by" "PlainWalk.run_by" s_PlainWalk_run_by ["self", "name", "rule", "asks"] := c.dfm 32 rfl (fun _ _ _ _ _ _ us hl => match us, hl with | [_, _, _, _], _ => rfl)
  have D_plain_walk : Df K mg "plain_walk" "plain_walk" s_plain_walk ["project", "name"] := c.df X G 33 rfl (fun _ _ _ _ _ _ us hl => match us, hl with | [_, _], _ => rfl)
  have D_answer_of : Df K mg "answer_of" "answer_of" s_answer_of ["project", "name"] := c.df X G 34 rfl (fun _ _ _ _ _ _ us hl => match us, hl with | [_, _], _ => rfl)
  have D_full_run : Df K mg "full_run" "full_run" s_full_run ["project", "name"] := c.df X G 35 rfl (fun _ _ _ _ _ _ us hl => match us, hl with | [_, _], _ => rfl)
  have D_met_by : Df K mg "met_by" "met_by" s_met_by ["project", "name"] := c.df X G 36 rfl (fun _ _ _ _ _ _ us hl => match us, hl with | [_, _], _ => rfl)
  have D_paper_of : Df K mg "paper_of" "paper_of" s_paper_of ["project", "name"] := c.df X G 37 rfl (fun _ _ _ _ _ _ us hl => match us, hl with | [_, _], _ => rfl)
  have D_foot_of : Df K mg "foot_of" "foot_of" s_foot_of ["project", "name"] := c.df X G 38 rfl (fun _ _ _ _ _ _ us hl => match us, hl with | [_, _], _ => rfl)
  have D_alike_on : Df K mg "alike_on" "alike_on" s_alike_on ["project", "other", "names", "asks"] := c.df X G 39 rfl (fun _ _ _ _ _ _ us hl => match us, hl with | [_, _, _, _], _ => rfl)
  have D_is_source : Df K mg "is_source" "is_source" s_is_source ["value"] := c.df X G 40 rfl (fun _ _ _ _ _ _ us hl => match us, hl with | [_], _ => rfl)
  have D_Project___init__ : DfI K mg (He.ga K "Project") "Project" "Project.__init__" s_Project___init__ ["self", "sources"] := c.dfi X G 41 33 rfl rfl rfl (fun _ _ _ _ _ _ us hl => match us, hl with | [_, _], _ => rfl)
  have D_Project_source_of : DfM K (He.ga K "Project") "source_of" "Project.source_of" s_Project_source_of ["self", "name"] := c.dfm 42 rfl (fun _ _ _ _ _ _ us hl => match us, hl with | [_, _], _ => rfl)
  have D_Project_looked_up : DfM K (He.ga K "Project") "looked_up" "Project.looked_up" s_Project_looked_up ["self", "ask"] := c.dfm 43 rfl (fun _ _ _ _ _ _ us hl => match us, hl with | [_, _], _ => rfl)
  have D_names_row : Df K mg "names_row" "names_row" s_names_row ["names"] := c.df X G 44 rfl (fun _ _ _ _ _ _ us hl => match us, hl with | [_], _ => rfl)
  have D__law_cell_at : Df K mg "_law_cell_at" "_law_cell_at" s__law_cell_at ["script", "k"] := c.df X G 45 rfl (fun _ _ _ _ _ _ us hl => match us, hl with | [_, _], _ => rfl)
  have D__law_pot : Df K mg "_law_pot" "_law_pot" s__law_pot ["cell", "salt"] := c.df X G 46 rfl (fun _ _ _ _ _ _ us hl => match us, hl with | [_, _], _ => rfl)
  have D__law_take : Df K mg "_law_take" "_law_take" s__law_take ["pot", "many"] := c.df X G 47 rfl (fun _ _ _ _ _ _ us hl => match us, hl with | [_, _], _ => rfl)
  have D__law_word : Df K mg "_law_word" "_law_word" s__law_word ["pot", "names"] := c.df X G 48 rfl (fun _ _ _ _ _ _ us hl => match us, hl with | [_, _], _ => rfl)
  have D__law_line : Df K mg "_law_line" "_law_line" s__law_line ["pot", "names", "many", "k"] := c.df X G 49 rfl (fun _ _ _ _ _ _ us hl => match us, hl with | [_, _, _, _], _ => rfl)
  have D__law_rule : Df K mg "_law_rule" "_law_rule" s__law_rule ["pot", "names"] := c.df X G 50 rfl (fun _ _ _ _ _ _ us hl => match us, hl with | [_, _], _ => rfl)
  have D__law_maker : Df K mg "_law_maker" "_law_maker" s__law_maker ["pot", "names"] := c.df X G 51 rfl (fun _ _ _ _ _ _ us hl => match us, hl with | [_, _], _ => rfl)
  have D__law_leaf : Df K mg "_law_leaf" "_law_leaf" s__law_leaf ["pot", "names"] := c.df X G 52 rfl (fun _ _ _ _ _ _ us hl => match us, hl with | [_, _], _ => rfl)
  have D__law_source : Df K mg "_law_source" "_law_source" s__law_source ["pot", "names"] := c.df X G 53 rfl (fun _ _ _ _ _ _ us hl => match us, hl with | [_, _], _ => rfl)
  have D__law_sources : Df K mg "_law_sources" "_law_sources" s__law_sources ["script"] := c.df X G 54 rfl (fun _ _ _ _ _ _ us hl => match us, hl with | [_], _ => rfl)
  have D__law_changed : Df K mg "_law_changed" "_law_changed" s__law_changed ["pairs", "pot", "names"] := c.df X G 55 rfl (fun _ _ _ _ _ _ us hl => match us, hl with | [_, _, _], _ => rfl)
  have D__law_is_alike : Df K mg "_law_is_alike" "_law_is_alike" s__law_is_alike ["project", "other", "foot"] := c.df X G 56 rfl (fun _ _ _ _ _ _ us hl => match us, hl with | [_, _, _], _ => rfl)
  have D__law_right : Df K mg "_law_right" "_law_right" s__law_right ["project", "other", "feet", "papers", "names"] := c.df X G 57 rfl (fun _ _ _ _ _ _ us hl => match us, hl with | [_, _, _, _, _], _ => rfl)
  obtain ⟨fd, F_law, _⟩ := c.fun_ X G 58 (x := "law") (qual := "law") (st := s_law) rfl
  have B : NoB mg := ⟨He.free_ok X G (c.fact 0 rfl), He.free_ok X G (c.fact 1 rfl), He.free_ok X G (c.fact 2 rfl), He.free_ok X G (c.fact 3 rfl), He.free_ok X G (c.fact 4 rfl), He.free_ok X G (c.fact 5 rfl), He.free_ok X G (c.fact 6 rfl), He.free_ok X G (c.fact 7 rfl), He.free_ok X G (c.fact 8 rfl), He.free_ok X G (c.fact 9 rfl), He.free_ok X G (c.fact 10 rfl), He.free_ok X G (c.fact 11 rfl), He.free_ok X G (c.fact 12 rfl), He.free_ok X G (c.fact 13 rfl), He.free_ok X G (c.fact 14 rfl), He.free_ok X G (c.fact 15 rfl)⟩
  have g_MOST_SIGNS : GV mg "MOST_SIGNS" (.int 300) := c.int_ X G 16 rfl
  have g_MOST_PARTS : GV mg "MOST_PARTS" (.int 40) := c.int_ X G 17 rfl
  have g_MOST_SIZE : GV mg "MOST_SIZE" (.int 600) := c.int_ X G 18 rfl
  have g_MOST_DEEP : GV mg "MOST_DEEP" (.int 12) := c.int_ X G 19 rfl
  have g_MOST_NAME : GV mg "MOST_NAME" (.int 24) := c.int_ X G 20 rfl
  have g_MOST_THINGS : GV mg "MOST_THINGS" (.int 60) := c.int_ X G 21 rfl
  have g_MOST_LINES_rules : GV mg "MOST_LINES_rules" (.int 40) := c.int_ X G 22 rfl
  have g_MOST_LINES_machine : GV mg "MOST_LINES_machine" (.int 300) := c.int_ X G 23 rfl
  have g_LETTERS : GV mg "LETTERS" (.str "abcdefghijklmnopqrstuvwxyz") := c.str_ X G 24 rfl
  have g_NAME_SIGNS : GV mg "NAME_SIGNS" (.str "abcdefghijklmnopqrstuvwxyz0123456789./") := c.str_ X G 25 rfl
  have g_BOXES_rules : GV mg "BOXES_rules" (.str "abcdefgh") := c.str_ X G 26 rfl
  have g_FIGURES : GV mg "FIGURES" (.str "0123456789") := c.str_ X G 27 rfl
  have g_BOXES_machine : GV mg "BOXES_machine" (.str "abcdefgh") := c.str_ X G 28 rfl
  have g_LINE_FORMS : GV mg "LINE_FORMS" (.ref (He.ga K "LINE_FORMS")) := c.glo_ X G 29 rfl
  have g_ASKED_BY : GV mg "ASKED_BY" (.ref (He.ga K "ASKED_BY")) := c.glo_ X G 30 rfl
  have hex0 := c.more
  obtain ⟨he0, hex1⟩ := He.ba hex0
  have kd_LINE_FORMS : KDk K w (He.ga K "LINE_FORMS") ([("self", .str "b"), ("copy", .str "bb"), ("row", .str "b"), ("put", .str "bb"), ("join", .str "bb"), ("first", .str "bb"), ("rest", .str "bb"), ("size", .str "bb"), ("cut", .str "bbb"), ("glue", .str "bbb"), ("ask", .str "bb"), ("has", .str "bb"), ("names", .str "bb"), ("go", .str "n"), ("like", .str "bbn"), ("rowed", .str "bn"), ("none", .str "bn"), ("say", .str "b"), ("fault", .str "")] : List (Str × V)) := kdk_of (c.tab 0 rfl) he0
  obtain ⟨he1, hex2⟩ := He.ba hex1
  have kd_ASKED_BY : KDk K w (He.ga K "ASKED_BY") ([("ask", .str "thing"), ("has", .str "has"), ("names", .str "names")] : List (Str × V)) := kdk_of (c.tab 1 rfl) he1
  have T_Project : PCls K mg (He.ga K "Project") := ⟨He.cls_ok (c.fact 31 rfl), He.noat_ok (c.fact 32 rfl)⟩
  have T_Machine : MCls K (He.ga K "Machine") := ⟨He.cls_ok (c.fact 35 rfl), He.noat_ok (c.fact 36 rfl), He.noat_ok (c.fact 37 rfl), He.noat_ok (c.fact 38 rfl), He.noat_ok (c.fact 39 rfl), He.noat_ok (c.fact 40 rfl), He.noat_ok (c.fact 41 rfl), He.noat_ok (c.fact 42 rfl), He.noat_ok (c.fact 43 rfl)⟩
  have T_PlainWalk : WCls K (He.ga K "PlainWalk") := ⟨He.cls_ok (c.fact 46 rfl), He.noat_ok (c.fact 47 rfl), He.noat_ok (c.fact 48 rfl), He.noat_ok (c.fact 49 rfl)⟩
  have GT : GTrees mg := ⟨g_MOST_SIGNS, g_MOST_PARTS, g_MOST_SIZE, g_MOST_DEEP⟩
  have GN : GNames mg := ⟨g_MOST_NAME, g_LETTERS, g_NAME_SIGNS⟩
  have h_dict : mg "dict" = none := He.free_ok X G (c.fact 52 rfl)
  refine ⟨fd, fun s u => ?_, fun base KB GB => ?_⟩
  · obtain ⟨oc, od, kV, doc, pm, an, cdv, ct, osl, rfl, lk, hcd⟩ := F_law.ex
    exact .of_eq rfl
  · have C_is_plain := ok_is_plain (P := P) (w := w) (mg := mg) (base := base) D_is_plain B
    have C_is_name := ok_is_name (P := P) (w := w) (mg := mg) (base := base) D_is_name B GN
    have C_is_nameD := ok_is_nameD (P := P) (w := w) (mg := mg) (base := base) D_is_name B GN
    have C_room := ok_room (P := P) (w := w) (mg := mg) (base := base) D_room_left B GT (by assumption) 13
    have C_is_tree := ok_is_tree (P := P) (w := w) (mg := mg) (base := base) D_is_tree B GT (by assumption)
    have C_is_source := ok_is_source (P := P) (w := w) (mg := mg) (base := base) D_is_source B (by assumption) (by assumption)
    have C_pr_init := ok_pr_init (P := P) (w := w) (mg := mg) (base := base) D_Project___init__ T_Project B g_MOST_THINGS (by assumption) (by assumption)
    have C_box_in := ok_box_in (P := P) (w := w) (mg := mg) (base := base) D_box_in B g_BOXES_rules
    have C_line_num := ok_line_num (P := P) (w := w) (mg := mg) (base := base) D_line_number_in B g_FIGURES
    have C_text_line := ok_text_line (P := P) (w := w) (mg := mg) (base := base) D_text_line (by assumption)
    have C_line_row := ok_line_row (P := P) (w := w) (mg := mg) (base := base) D_line_row B g_LINE_FORMS (by assumption) (by assumption) (by assumption) (by assumption)
    have C_bad_line := ok_bad_line (P := P) (w := w) (mg := mg) (base := base) D_bad_line B g_MOST_LINES_rules (by assumption)
    have C_is_rule := ok_is_rule (P := P) (w := w) (mg := mg) (base := base) D_is_rule (by assumption) (by assumption)
    have C_rule_rows := ok_rule_rows (P := P) (w := w) (mg := mg) (base := base) D_rule_rows B (by assumption) (by assumption)
    have C_joined_up := ok_joined_up (P := P) (w := w) (mg := mg) (base := base) D_joined_up B
    have C_parted_by := ok_parted_by (P := P) (w := w) (mg := mg) (base := base) D_parted_by B
    have C_glued_by := ok_glued_by (P := P) (w := w) (mg := mg) (base := base) D_glued_by B
    have C_taken_from := ok_taken_from (P := P) (w := w) (mg := mg) (base := base) D_taken_from B
    have C_is_answer := ok_is_answer (P := P) (w := w) (mg := mg) (base := base) D_is_answer B (by assumption) (by assumption)
    have C_made_by := ok_made_by (P := P) (w := w) (mg := mg) (base := base) D_made_by (by assumption) (by assumption) (by assumption) (by assumption)
    have C_goes_there := ok_goes_there (P := P) (w := w) (mg := mg) (base := base) D_goes_there B
    have C_fill := ok_fill (P := P) (w := w) (mg := mg) (base := base) D_Machine_fill T_Machine (by assumption)
    have C_wait := ok_wait (P := P) (w := w) (mg := mg) (base := base) D_Machine_wait_at T_Machine B g_ASKED_BY (by assumption) (by assumption)
    have C_do_line := ok_do_line (P := P) (w := w) (mg := mg) (base := base) D_Machine_do_line T_Machine B g_ASKED_BY (by assumption) (by assumption) (by assumption) (by assumption) (by assumption)
    have C_go_on := ok_go_on (P := P) (w := w) (mg := mg) (base := base) D_Machine_go_on T_Machine B g_MOST_LINES_machine (by assumption)
    have C_now := ok_now (P := P) (w := w) (mg := mg) (base := base) D_Machine_now T_Machine
    have C_asked := ok_asked (P := P) (w := w) (mg := mg) (base := base) D_Machine_asked T_Machine B
    have C_answer := ok_answer (P := P) (w := w) (mg := mg) (base := base) D_Machine_answer T_Machine B (by assumption) (by assumption) (by assumption)
    have C_mac_init := ok_mac_init (P := P) (w := w) (mg := mg) (base := base) D_Machine___init__ T_Machine B g_BOXES_machine (by assumption) (by assumption) (by assumption)
    have C_source_of := ok_source_of (P := P) (w := w) (mg := mg) (base := base) D_Project_source_of T_Project
    have C_names_row := ok_names_row (P := P) (w := w) (mg := mg) (base := base) D_names_row B GT
    have C_looked_up := ok_looked_up (P := P) (w := w) (mg := mg) (base := base) D_Project_looked_up T_Project B (by assumption)
    have C_answer_by := ok_answer_by (P := P) (w := w) (mg := mg) (base := base) D_answer_by
    have C_winit := ok_winit (P := P) (w := w) (mg := mg) (base := base) D_PlainWalk___init__ T_PlainWalk
    have C_wans := walk_turns (P := P) (w := w) (mg := mg) (base := base) D_PlainWalk_answer D_PlainWalk_asked D_PlainWalk_gone_through D_PlainWalk_run_by T_PlainWalk T_Project T_Machine (by assumption) (by assumption) (by assumption) (by assumption) (by assumption) (by assumption) (by assumption) (by assumption) 50
    have C_look := ok_look (P := P) (w := w) (mg := mg) (base := base) D_look_at_asked_name (by assumption)
    have C_plain_walk := ok_plain_walk (P := P) (w := w) (mg := mg) (base := base) D_plain_walk T_PlainWalk (by assumption) (by assumption) (by assumption)
    have C_full_run := ok_full_run (P := P) (w := w) (mg := mg) (base := base) D_full_run T_PlainWalk (by assumption)
    have C_met_by := ok_met_by (P := P) (w := w) (mg := mg) (base := base) D_met_by T_PlainWalk B (by assumption)
    have C_paper_of := ok_paper_of (P := P) (w := w) (mg := mg) (base := base) D_paper_of B (by assumption) (by assumption)
    have C_answer_of := ok_answer_of (P := P) (w := w) (mg := mg) (base := base) D_answer_of T_PlainWalk (by assumption) (by assumption)
    have C_foot_of := ok_foot_of (P := P) (w := w) (mg := mg) (base := base) D_foot_of B (by assumption)
    have C_alike_on := ok_alike_on (P := P) (w := w) (mg := mg) (base := base) D_alike_on B T_Project (by assumption) (by assumption)
    have C_is_alike := ok_is_alike (P := P) (w := w) (mg := mg) (base := base) D__law_is_alike B T_Project (by assumption) (by assumption)
    have C_right := ok_right (P := P) (w := w) (mg := mg) (base := base) D__law_right B (by assumption) (by assumption) (by assumption) (by assumption) (by assumption)
    have C_cell_at := ok_cell_at (P := P) (w := w) (mg := mg) (base := base) D__law_cell_at B
    have C_pot := ok_pot (P := P) (w := w) (mg := mg) (base := base) D__law_pot B
    have C_take := ok_take (P := P) (w := w) (mg := mg) (base := base) D__law_take
    have C_word := ok_word (P := P) (w := w) (mg := mg) (base := base) D__law_word B (by assumption)
    have C_line := ok_line (P := P) (w := w) (mg := mg) (base := base) D__law_line B (by assumption) (by assumption)
    have C_rule := ok_rule (P := P) (w := w) (mg := mg) (base := base) D__law_rule B (by assumption) (by assumption) (by assumption)
    have C_maker := ok_maker (P := P) (w := w) (mg := mg) (base := base) D__law_maker B (by assumption)
    have C_leaf := ok_leaf (P := P) (w := w) (mg := mg) (base := base) D__law_leaf B (by assumption) (by assumption) (by assumption)
    have C_source := ok_source (P := P) (w := w) (mg := mg) (base := base) D__law_source B (by assumption) (by assumption) (by assumption) (by assumption)
    have C_sources := ok_sources (P := P) (w := w) (mg := mg) (base := base) D__law_sources B (by assumption) (by assumption) (by assumption)
    have C_changed := ok_changed (P := P) (w := w) (mg := mg) (base := base) D__law_changed B (by assumption) (by assumption) (by assumption)
    exact ok_law66 (P := P) (w := w) (mg := mg) (base := base) F_law T_Project B (by assumption) (by assumption) (by assumption) (by assumption) (by assumption) (by assumption) (by assumption) (by assumption) (by assumption)
end Aw
open PySem PySem.W PySem.Calls PyProof.Rows
theorem PySem.Challenge.cw_askwright_k66_whole_alike_on_feet_holds : PySem.Challenge.rw_askwright_k66_whole_alike_on_feet.Holds := by
  w_on; o_law
  refine HandSHeadRun.head_any (r := OpenLaw.row PySem.Challenge.rw_askwright_k66_whole_alike_on_feet) (q := Aw.hdV) (H := Aw.hdK) (ob := Aw.hdOb) (M := 6000) (loose := Aw.hdN) (d := HandSHeadRun.topDef (OpenLaw.row PySem.Challenge.rw_askwright_k66_whole_alike_on_feet).prog 76) (kwd := []) Aw.hdOb_eq
    (by kernel_rfl) (fun s => by kernel_rfl) Aw.hdRun (by kernel_rfl) (by kernel_rfl) (by kernel_rfl) (by rfl) (by first | assumption | decide +kernel) (by decide +kernel) ⟨rfl, rfl, rfl, rfl, rfl, by decide +kernel⟩ ?hw ?hc
  case hw => w_witness2
  case hc =>
    refine L2.walk_ofE (l := PySem.Challenge.rw_askwright_k66_whole_alike_on_feet) (n := 63) (k := 230) (x := "script") (CX := L2.CX0) rfl (by decide) (by kernel_rfl) ⟨rfl, by decide, by decide⟩ ?F (fun _ _ _ _ z => z)
    intro w mg fa h Y G hmg0
    obtain ⟨K, KX, c⟩ := Y
    have hmg : mg ("law" : PySem.Str) = some (.ref fa) := by
      have e : (HandSHeadRun.topDef (OpenLaw.row PySem.Challenge.rw_askwright_k66_whole_alike_on_feet).prog 76).name = ("law" : PySem.Str) := by kernel_rfl
      rw [← e]
      exact hmg0
    obtain ⟨fd0, _, hm2⟩ := c.fun_ KX G 58 (x := "law") (qual := "law") (st := Aw.s_law) rfl
    have e2 := hmg.symm.trans hm2
    cases e2
    obtain ⟨fd, hb, hF⟩ := Aw.all_ok (P := (PySem.Challenge.rw_askwright_k66_whole_alike_on_feet).prog) (w := w) KX G c
    exact ⟨K, fd, Aw.spLaw K, KX, hb, fun H a ns hl _ hS => ⟨a, ns, rfl, hS, hl, fun _ => rfl⟩, hF⟩
