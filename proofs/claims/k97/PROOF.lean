import PyProof.Rows.All
import Wide.All
import OpenK.AllK
import Wide.FinOn
import PySem.Challenge.RW_howeverlong_k97_whole_journals_of_live_r
import KE.KStateDown
import HandS.Base
import HandS.Call
import HandS.Exc
import HandS.Defaults
import HandS.HeadHook1
import HandS.HeadHook2
import HandS.Head0
import HandS.Head1
import HandS.Head2
import HandS.HeadEnd
import HandS.ForMost
import HandS.ForExc
import HandS.IsInst
import HandS.TupAny
import HandS.Wide
import HandS.SortInts
import HandS.SortOrd
import HandS.Conv
import HandS.Deep
import HandS.TupMul
import HandS.TupLen
import KE.DatumOrd
import HandS.SortRule
import KE.KDictSum
import HandS.Small
import KE.GoesMore
import HandS.Iter
import HandS.Zip
import HandS.ExcOwn
import HandS.TupLe
import HandS.DictComp
import HandS.List
import HandS.ExcIs
import HandS.Style
section
set_option Elab.async false
set_option linter.all false
set_option maxRecDepth 100000
set_option maxHeartbeats 2000000
/-! the head's facts by a lean list of addresses -/
namespace GH
open PySem PySem.Spec PyProof.Rows L2 He
/-- what an object names, as far as facts ask it -/
def refsW (o : Obj) : List Addr := match o.data with
  | .seq its _ => its.toList.flatMap refV
  | .dict es _ => es.toList.flatMap fun e => refV e.val
  | .func fd => refV fd.code ++ (refV fd.defaults ++ fd.closure.map (·.2))
  | .cls cd => [cd.ns]
  | _ => []
def nextW (g : Addr → Option Obj) (as : List Addr) : List Addr := as.flatMap fun a => match g a with
  | some o => refsW o
  | none => []
def asW (g : Addr → Option Obj) : List Addr := 
  let l1 := nextW g [mainGlobals]
  let l2 := nextW g l1
  let l3 := nextW g l2
  let l4 := nextW g l3
  mainGlobals :: (l1 ++ (l2 ++ (l3 ++ l4)))
/-- with a further look at the written part -/
def obsE (fa : List Fa) (fn : List DefD) (ext : PySem.W.Frag → Bool) (K : PySem.W.Frag) : AlD := ((obsD fa fn K).1 && ext K, (obsD fa fn K).2)
theorem obsE_ok {fa : List Fa} {fn : List DefD} {ext : PySem.W.Frag → Bool} {K : PySem.W.Frag} (h : obsE fa fn ext K = valD fn) : SaysD fa fn K ∧ ext K = true := by
  have h1 : ((obsD fa fn K).1 && ext K) = true := congrArg (fun z : AlD => z.1) h
  have h2 : (obsD fa fn K).2 = fn.map DefD.val := congrArg (fun z : AlD => z.2) h
  rw [Bool.and_eq_true] at h1
  exact ⟨Prod.ext h1.1 h2, h1.2⟩
def obsWG (fa : List Fa) (fn : List DefD) (ext : PySem.W.Frag → Bool) (g : Addr → Option Obj) : AlD := obsE fa fn ext (frG g (asW g))
def hookW (fa : List Fa) (fn : List DefD) (ext : PySem.W.Frag → Bool) : PySem.W.Hook where
  α := AlD
  obs := fun s => obsWG fa fn ext s.heap.get?
  val := fun _ => valD fn
  says := fun _ h => ∃ K : PySem.W.Frag, K.In h ∧ SaysD fa fn K ∧ ext K = true
  of := fun _ _ e => ⟨_, frG_in, obsE_ok e⟩
  keeps := fun _ _ _ ⟨K, hK, c⟩ k => ⟨K, PySem.W.Frag.In.keeps hK k, c⟩
theorem obsWG_eq {fa : List Fa} {fn : List DefD} {ext : PySem.W.Frag → Bool} {g : Addr → Option Obj} {s : Shared} (h : ∀ a, g a = s.heap.get? a) : obsWG fa fn ext g = (hookW fa fn ext).obs s := by
  have e : g = s.heap.get? := funext h
  rw [e] <;> rfl
end GH
end

section
set_option Elab.async false
set_option linter.all false
set_option maxRecDepth 100000
set_option maxHeartbeats 4000000
namespace K97
open PySem PySem.Spec PyProof.Rows L2
def top (i : Nat) : Stmt := PySem.Challenge.pw_howeverlong_k97_whole_journals_of_live_r.main.body.getD i (.Pass ⟨0, 0, 0, 0⟩)
def d__law_draws : He.DefD := ⟨("_law_draws", none), "_law_draws", "_law_draws", defArgs (top 90), defBody (top 90), defScope (top 90), [], []⟩
def d__law_take : He.DefD := ⟨("_law_take", none), "_law_take", "_law_take", defArgs (top 91), defBody (top 91), defScope (top 91), [], []⟩
def d__law_lasts : He.DefD := ⟨("_law_lasts", none), "_law_lasts", "_law_lasts", defArgs (top 93), defBody (top 93), defScope (top 93), [], []⟩
def d__law_bounds : He.DefD := ⟨("_law_bounds", none), "_law_bounds", "_law_bounds", defArgs (top 94), defBody (top 94), defScope (top 94), [], []⟩
def d__law_order : He.DefD := ⟨("_law_order", none), "_law_order", "_law_order", defArgs (top 92), defBody (top 92), defScope (top 92), [], []⟩
def d__law_couple : He.DefD := ⟨("_law_couple", none), "_law_couple", "_law_couple", defArgs (top 95), defBody (top 95), defScope (top 95), [], []⟩
def d__law_net : He.DefD := ⟨("_law_net", none), "_law_net", "_law_net", defArgs (top 96), defBody (top 96), defScope (top 96), [], []⟩
def d_is_sized : He.DefD := ⟨("is_sized", none), "is_sized", "is_sized", defArgs (top 12), defBody (top 12), defScope (top 12), [], []⟩
def d_is_int : He.DefD := ⟨("is_int", none), "is_int", "is_int", defArgs (top 10), defBody (top 10), defScope (top 10), [], []⟩
def d_is_within : He.DefD := ⟨("is_within", none), "is_within", "is_within", defArgs (top 11), defBody (top 11), defScope (top 11), [], []⟩
def d_is_bound : He.DefD := ⟨("is_bound", none), "is_bound", "is_bound", defArgs (top 25), defBody (top 25), defScope (top 25), [], []⟩
def d_are_bounds : He.DefD := ⟨("are_bounds", none), "are_bounds", "are_bounds", defArgs (top 26), defBody (top 26), defScope (top 26), [], []⟩
def d_is_rising : He.DefD := ⟨("is_rising", none), "is_rising", "is_rising", defArgs (top 13), defBody (top 13), defScope (top 13), [], []⟩
def d_are_rooted : He.DefD := ⟨("are_rooted", none), "are_rooted", "are_rooted", defArgs (top 23), defBody (top 23), defScope (top 23), [], []⟩
def d_is_last : He.DefD := ⟨("is_last", none), "is_last", "is_last", defArgs (top 22), defBody (top 22), defScope (top 22), [], []⟩
def d_are_lasts : He.DefD := ⟨("are_lasts", none), "are_lasts", "are_lasts", defArgs (top 24), defBody (top 24), defScope (top 24), [], []⟩
def d_is_net : He.DefD := ⟨("is_net", none), "is_net", "is_net", defArgs (top 27), defBody (top 27), defScope (top 27), [], []⟩
def d_check_net : He.DefD := ⟨("check_net", none), "check_net", "check_net", defArgs (top 28), defBody (top 28), defScope (top 28), [], []⟩
def d_raw_first_place : He.DefD := ⟨("raw_first_place", none), "raw_first_place", "raw_first_place", defArgs (top 64), defBody (top 64), defScope (top 64), [], []⟩
def d_Live___init__ : He.DefD := ⟨("Live", some "__init__"), "__init__", "Live.__init__", defArgs (inClass (top 88) 0), defBody (inClass (top 88) 0), defScope (inClass (top 88) 0), [], []⟩
def d_Live_is_over : He.DefD := ⟨("Live", some "is_over"), "is_over", "Live.is_over", defArgs (inClass (top 88) 9), defBody (inClass (top 88) 9), defScope (inClass (top 88) 9), [], []⟩
def d_raw_ends : He.DefD := ⟨("raw_ends", none), "raw_ends", "raw_ends", defArgs (top 29), defBody (top 29), defScope (top 29), [], []⟩
def d_raw_ours : He.DefD := ⟨("raw_ours", none), "raw_ours", "raw_ours", defArgs (top 30), defBody (top 30), defScope (top 30), [], []⟩
def d_raw_is_place : He.DefD := ⟨("raw_is_place", none), "raw_is_place", "raw_is_place", defArgs (top 66), defBody (top 66), defScope (top 66), [], []⟩
def d_check_place : He.DefD := ⟨("check_place", none), "check_place", "check_place", defArgs (top 67), defBody (top 67), defScope (top 67), [], []⟩
def d_is_lot : He.DefD := ⟨("is_lot", none), "is_lot", "is_lot", defArgs (top 14), defBody (top 14), defScope (top 14), [], []⟩
def d_raw_left : He.DefD := ⟨("raw_left", none), "raw_left", "raw_left", defArgs (top 65), defBody (top 65), defScope (top 65), [], []⟩
def d_check_lot : He.DefD := ⟨("check_lot", none), "check_lot", "check_lot", defArgs (top 68), defBody (top 68), defScope (top 68), [], []⟩
def d_lots_from : He.DefD := ⟨("lots_from", none), "lots_from", "lots_from", defArgs (top 61), defBody (top 61), defScope (top 61), [], []⟩
def d_ends_at : He.DefD := ⟨("ends_at", none), "ends_at", "ends_at", defArgs (top 62), defBody (top 62), defScope (top 62), [], []⟩
def d_with_come : He.DefD := ⟨("with_come", none), "with_come", "with_come", defArgs (top 63), defBody (top 63), defScope (top 63), [], []⟩
def d_raw_ends_next : He.DefD := ⟨("raw_ends_next", none), "raw_ends_next", "raw_ends_next", defArgs (top 69), defBody (top 69), defScope (top 69), [], []⟩
def d_ends_next : He.DefD := ⟨("ends_next", none), "ends_next", "ends_next", defArgs (top 70), defBody (top 70), defScope (top 70), [], []⟩
def d_raw_place_behind : He.DefD := ⟨("raw_place_behind", none), "raw_place_behind", "raw_place_behind", defArgs (top 71), defBody (top 71), defScope (top 71), [], []⟩
def d_raw_is_lot : He.DefD := ⟨("raw_is_lot", none), "raw_is_lot", "raw_is_lot", defArgs (top 33), defBody (top 33), defScope (top 33), [], []⟩
def d_Live_go : He.DefD := ⟨("Live", some "go"), "go", "Live.go", defArgs (inClass (top 88) 4), defBody (inClass (top 88) 4), defScope (inClass (top 88) 4), [], []⟩
def d_Audit___init__ : He.DefD := ⟨("Audit", some "__init__"), "__init__", "Audit.__init__", defArgs (inClass (top 78) 0), defBody (inClass (top 78) 0), defScope (inClass (top 78) 0), [], []⟩
def d_Audit_is_over : He.DefD := ⟨("Audit", some "is_over"), "is_over", "Audit.is_over", defArgs (inClass (top 78) 1), defBody (inClass (top 78) 1), defScope (inClass (top 78) 1), [], []⟩
def d_raw_all_bounds : He.DefD := ⟨("raw_all_bounds", none), "raw_all_bounds", "raw_all_bounds", defArgs (top 31), defBody (top 31), defScope (top 31), [], []⟩
def d_raw_broken : He.DefD := ⟨("raw_broken", none), "raw_broken", "raw_broken", defArgs (top 32), defBody (top 32), defScope (top 32), [], []⟩
def d_Audit_left : He.DefD := ⟨("Audit", some "left"), "left", "Audit.left", defArgs (inClass (top 78) 2), defBody (inClass (top 78) 2), defScope (inClass (top 78) 2), [], []⟩
def d_Audit_can_end : He.DefD := ⟨("Audit", some "can_end"), "can_end", "Audit.can_end", defArgs (inClass (top 78) 3), defBody (inClass (top 78) 3), defScope (inClass (top 78) 3), [], []⟩
def d_Audit_takes : He.DefD := ⟨("Audit", some "takes"), "takes", "Audit.takes", defArgs (inClass (top 78) 4), defBody (inClass (top 78) 4), defScope (inClass (top 78) 4), [], []⟩
def d_raw_audited : He.DefD := ⟨("raw_audited", none), "raw_audited", "raw_audited", defArgs (top 79), defBody (top 79), defScope (top 79), [], []⟩
def d_course_seen : He.DefD := ⟨("course_seen", none), "course_seen", "course_seen", defArgs (top 82), defBody (top 82), defScope (top 82), [], []⟩
def d__law_has_none : He.DefD := ⟨("_law_has_none", none), "_law_has_none", "_law_has_none", defArgs (top 103), defBody (top 103), defScope (top 103), [], []⟩
def d_Live_minute : He.DefD := ⟨("Live", some "minute"), "minute", "Live.minute", defArgs (inClass (top 88) 1), defBody (inClass (top 88) 1), defScope (inClass (top 88) 1), [], []⟩
def d_Live_times : He.DefD := ⟨("Live", some "times"), "times", "Live.times", defArgs (inClass (top 88) 2), defBody (inClass (top 88) 2), defScope (inClass (top 88) 2), [], []⟩
def d_Live_come : He.DefD := ⟨("Live", some "come"), "come", "Live.come", defArgs (inClass (top 88) 3), defBody (inClass (top 88) 3), defScope (inClass (top 88) 3), [], []⟩
def d__law_left : He.DefD := ⟨("_law_left", none), "_law_left", "_law_left", defArgs (top 99), defBody (top 99), defScope (top 99), [], []⟩
def d__law_all : He.DefD := ⟨("_law_all", none), "_law_all", "_law_all", defArgs (top 97), defBody (top 97), defScope (top 97), [], []⟩
def d__law_lost : He.DefD := ⟨("_law_lost", none), "_law_lost", "_law_lost", defArgs (top 100), defBody (top 100), defScope (top 100), [], []⟩
def d__law_ends_next : He.DefD := ⟨("_law_ends_next", none), "_law_ends_next", "_law_ends_next", defArgs (top 98), defBody (top 98), defScope (top 98), [], []⟩
def d__law_audited : He.DefD := ⟨("_law_audited", none), "_law_audited", "_law_audited", defArgs (top 101), defBody (top 101), defScope (top 101), [], []⟩
def d_audited : He.DefD := ⟨("audited", none), "audited", "audited", defArgs (top 80), defBody (top 80), defScope (top 80), [], []⟩
def d__law_seen : He.DefD := ⟨("_law_seen", none), "_law_seen", "_law_seen", defArgs (top 102), defBody (top 102), defScope (top 102), [], []⟩
def d_is_journal : He.DefD := ⟨("is_journal", none), "is_journal", "is_journal", defArgs (top 81), defBody (top 81), defScope (top 81), [], []⟩
def d__law_is_minute_right : He.DefD := ⟨("_law_is_minute_right", none), "_law_is_minute_right", "_law_is_minute_right", defArgs (top 105), defBody (top 105), defScope (top 105), [], []⟩
def d_Live_undo : He.DefD := ⟨("Live", some "undo"), "undo", "Live.undo", defArgs (inClass (top 88) 10), defBody (inClass (top 88) 10), defScope (inClass (top 88) 10), [], []⟩
def d__law_can_go : He.DefD := ⟨("_law_can_go", none), "_law_can_go", "_law_can_go", defArgs (top 104), defBody (top 104), defScope (top 104), [], []⟩
def d__law_are_ends_right : He.DefD := ⟨("_law_are_ends_right", none), "_law_are_ends_right", "_law_are_ends_right", defArgs (top 106), defBody (top 106), defScope (top 106), [], []⟩
def d_law : He.DefD := ⟨("law", none), "law", "law", defArgs (top 107), defBody (top 107), defScope (top 107), [], []⟩
def fn0 : List He.DefD := [d__law_draws, d__law_take, d__law_lasts, d__law_bounds, d__law_order, d__law_couple, d__law_net, d_is_sized, d_is_int, d_is_within, d_is_bound, d_are_bounds]
def fn1 : List He.DefD := [d_is_rising, d_are_rooted, d_is_last, d_are_lasts, d_is_net, d_check_net, d_raw_first_place, d_Live___init__, d_Live_is_over, d_raw_ends, d_raw_ours, d_raw_is_place]
def fn2 : List He.DefD := [d_check_place, d_is_lot, d_raw_left, d_check_lot, d_lots_from, d_ends_at, d_with_come, d_raw_ends_next, d_ends_next, d_raw_place_behind, d_raw_is_lot, d_Live_go]
def fn3 : List He.DefD := [d_Audit___init__, d_Audit_is_over, d_raw_all_bounds, d_raw_broken, d_Audit_left, d_Audit_can_end, d_Audit_takes, d_raw_audited, d_course_seen, d__law_has_none, d_Live_minute, d_Live_times]
def fn4 : List He.DefD := [d_Live_come, d__law_left, d__law_all, d__law_lost, d__law_ends_next, d__law_audited, d_audited, d__law_seen, d_is_journal, d__law_is_minute_right, d_Live_undo, d__law_can_go]
def fn5 : List He.DefD := [d__law_are_ends_right, d_law]
def fn : List He.DefD := fn0 ++ fn1 ++ fn2 ++ fn3 ++ fn4 ++ fn5
def fa0 : List He.Fa := [.glo "_wall", .glo "PlanError", .glo "NoNet", .glo "NoPlace", .glo "NoLot", .glo "NoRule", .glo "NotYet", .glo "NoJournal", .glo "is_int", .glo "is_within", .glo "is_sized", .glo "is_rising", .glo "is_lot", .glo "as_tuples", .int "MOST_EVENTS" 16, .int "MOST_LASTS" 5, .int "MOST_LENGTH" 1000, .int "MOST_BOUNDS" 60, .int "MOST_WORTH" 100000, .glo "is_last"]
def fa1 : List He.Fa := [.glo "are_rooted", .glo "are_lasts", .glo "is_bound", .glo "are_bounds", .glo "is_net", .glo "check_net", .glo "raw_ends", .glo "raw_ours", .glo "raw_all_bounds", .glo "raw_broken", .glo "raw_is_lot", .glo "ring_or_ways", .str "PLAIN" "plain", .str "WAIT" "wait", .str "BOUND" "bound", .str "LATE" "late", .str "JOIN" "join", .str "BEHIND" "behind", .str "EARLY" "early", .str "CROSS" "cross"]
def fa2 : List He.Fa := [.str "SURE" "sure", .glo "PREMISES", .glo "told_at", .glo "made_by", .glo "made_by_length", .glo "step_of", .glo "led_reason", .glo "needed_rows", .glo "raw_needed", .str "CLOSED" "closed", .str "BAR" "bar", .glo "Closer", .glo "raw_closed", .glo "raw_has_rule", .glo "lots_from", .glo "ends_at", .glo "with_come", .glo "raw_first_place", .glo "raw_left", .glo "raw_is_place"]
def fa3 : List He.Fa := [.glo "check_place", .glo "check_lot", .glo "raw_ends_next", .glo "ends_next", .glo "raw_place_behind", .glo "raw_table", .glo "is_waited", .glo "may_be_among", .glo "raw_may_come", .glo "Audit", .glo "raw_audited", .glo "audited", .glo "is_journal", .glo "course_seen", .glo "lesser_bounds", .glo "raw_left_net", .glo "raw_is_safe", .glo "Live", .glo "_law_draws", .glo "_law_take"]
def fa4 : List He.Fa := [.glo "_law_order", .glo "_law_lasts", .glo "_law_bounds", .glo "_law_couple", .glo "_law_net", .glo "_law_all", .glo "_law_ends_next", .glo "_law_left", .glo "_law_lost", .glo "_law_audited", .glo "_law_seen", .glo "_law_has_none", .glo "_law_can_go", .glo "_law_is_minute_right", .glo "_law_are_ends_right", .glo "law", .free "ValueError", .free "all", .free "any", .free "bool"]
def fa5 : List He.Fa := [.free "enumerate", .free "int", .free "isinstance", .free "len", .free "list", .free "max", .free "min", .free "range", .free "sorted", .free "tuple", .free "zip", .cls "Audit", .mkr "Audit", .meth "Audit" "__init__", .meth "Audit" "is_over", .meth "Audit" "left", .meth "Audit" "can_end", .meth "Audit" "takes", .noat "Audit" "minute", .noat "Audit" "net"]
def fa6 : List He.Fa := [.noat "Audit" "times", .cls "Live", .mkr "Live", .meth "Live" "__init__", .meth "Live" "minute", .meth "Live" "times", .meth "Live" "come", .meth "Live" "go", .meth "Live" "place", .meth "Live" "is_safe", .meth "Live" "safe_lots", .meth "Live" "early", .meth "Live" "is_over", .meth "Live" "undo", .noat "Live" "live_net", .noat "Live" "live_stages", .exc "NoNet", .exc "NoPlace", .exc "NoLot", .exc "NotYet"]
def fa7 : List He.Fa := [.exc "NoJournal", .exm "NoNet" "PlanError" true, .exm "NoPlace" "PlanError" true, .exm "NoLot" "PlanError" true, .exm "NotYet" "PlanError" true, .exm "NoJournal" "PlanError" true, .exm "NoNet" "NoJournal" false, .exm "NoPlace" "NoJournal" false, .exm "NoLot" "NoJournal" false, .exm "NotYet" "NoJournal" false, .exm "NoJournal" "NoJournal" true, .exm "NoNet" "NoLot" false, .exm "NoPlace" "NoLot" false, .exm "NoLot" "NoLot" true, .exm "NotYet" "NoLot" false, .exm "NoJournal" "NoLot" false]
def fa : List He.Fa := fa0 ++ fa1 ++ fa2 ++ fa3 ++ fa4 ++ fa5 ++ fa6 ++ fa7
def loose0 : List PySem.Str := ["_wall", "PlanError", "NoNet", "NoPlace", "NoLot", "NoRule", "NotYet", "NoJournal", "is_int", "is_within", "is_sized", "is_rising", "is_lot", "as_tuples", "MOST_EVENTS", "MOST_LASTS", "MOST_LENGTH", "MOST_BOUNDS", "MOST_WORTH", "is_last"]
def loose1 : List PySem.Str := ["are_rooted", "are_lasts", "is_bound", "are_bounds", "is_net", "check_net", "raw_ends", "raw_ours", "raw_all_bounds", "raw_broken", "raw_is_lot", "ring_or_ways", "PLAIN", "WAIT", "BOUND", "LATE", "JOIN", "BEHIND", "EARLY", "CROSS"]
def loose2 : List PySem.Str := ["SURE", "PREMISES", "told_at", "made_by", "made_by_length", "step_of", "led_reason", "needed_rows", "raw_needed", "CLOSED", "BAR", "Closer", "raw_closed", "raw_has_rule", "lots_from", "ends_at", "with_come", "raw_first_place", "raw_left", "raw_is_place"]
def loose3 : List PySem.Str := ["check_place", "check_lot", "raw_ends_next", "ends_next", "raw_place_behind", "raw_table", "is_waited", "may_be_among", "raw_may_come", "Audit", "raw_audited", "audited", "is_journal", "course_seen", "lesser_bounds", "raw_left_net", "raw_is_safe", "Live", "_law_draws", "_law_take"]
def loose4 : List PySem.Str := ["_law_order", "_law_lasts", "_law_bounds", "_law_couple", "_law_net", "_law_all", "_law_ends_next", "_law_left", "_law_lost", "_law_audited", "_law_seen", "_law_has_none", "_law_can_go", "_law_is_minute_right", "_law_are_ends_right"]
def loose : List PySem.Str := loose0 ++ loose1 ++ loose2 ++ loose3 ++ loose4
abbrev lawix : Nat := 107
abbrev steps : Nat := 20000
def excL : List Str := ["PlanError", "NoNet", "NoPlace", "NoLot", "NoRule", "NotYet", "NoJournal"]
def clsL : List Str := ["Closer", "Audit", "Live"]
def fldL : List Str := ["close_net", "close_rows", "close_plains", "close_waits", "close_new", "times", "minute", "net", "live_net", "live_stages"]
def exnL : List Nat := [1, 2, 3, 5, 6]
def kitL : List (Nat × Nat × Bool) := [(1, 6, false), (2, 6, false), (3, 6, false), (5, 6, false), (6, 6, true), (1, 3, false), (2, 3, false), (3, 3, true), (5, 3, false), (6, 3, false)]

/-- what the text's top tells of its names -/
def exC (K : PySem.W.Frag) (D : Addr) : Bool :=
  decide (PySem.W.findIn K (.ref D) "__getattribute__" = some (some (.builtin "BaseException.__getattribute__"))) && (decide (PySem.W.findIn K (.ref D) "__getattr__" = some none) && (decide (PySem.W.subIn K (.ref D) (.type "BaseException") = some true) &&
  (PySem.W.hasDictIn K D && (decide (PySem.W.findIn K (.ref D) "__class__" = some (some (.builtin "object.__class__"))) && (decide (PySem.W.specialIn K (.builtin "object.__class__") "__get__" = some (some (.builtin "getset_descriptor.__get__"))) &&
  (decide (PySem.W.takesIn K (.builtin "object.__class__") = some true) && decide (PySem.W.mroIn K D (.type "object") = some true)))))))
def ext (K : PySem.W.Frag) : Bool := (exnL.all fun c => exC K (He.ga K (excL.getD c ""))) && kitL.all fun t => decide (PySem.W.kitOne K (.ref (He.ga K (excL.getD t.1 ""))) (.ref (He.ga K (excL.getD t.2.1 ""))) = some t.2.2)
end K97
end

section
set_option Elab.async false
set_option linter.all false
set_option maxRecDepth 100000
set_option maxHeartbeats 0
namespace K97
open PySem PySem.Spec PyProof.Rows L2
abbrev R : PySem.W.OpenRow := PySem.W.OpenLaw.row PySem.Challenge.rw_howeverlong_k97_whole_journals_of_live_r
abbrev hk : PySem.W.Hook := GH.hookW fa fn ext
noncomputable def ob (s : PySem.W.SharedT) : He.AlD := GH.obsWG fa fn ext (HandSHeadRun.getT s)
theorem ob_eq (s : PySem.W.SharedT) : ob s = hk.obs s.abs := GH.obsWG_eq (HandSHeadRun.getT_eq s)
abbrev RunAt (w : World) : Prop := HandSHeadRun.RunEq R (PySem.W.view R.prog [lawix]) hk ob steps loose w
theorem run0 (w : World) : RunAt (w.withFollow "special-get-raises" false) := by
  intro os
  kernel_rfl
theorem run1 (w : World) : RunAt (w.withFollow "special-get-raises" true) := by
  intro os
  kernel_rfl
theorem run (w : World) : RunAt w := PySem.W.byRow2 "special-get-raises" (P := RunAt) run0 run1 w
end K97
end

section
set_option linter.all false
/-! G0: what a Python text does, as plain Lean functions over data (no program in sight). By an AI agent. -/
namespace G
/-- data: None, flags, ints, texts (their codes), tuples, lists that are never changed again, objects of the store, the script, a dict of the program's top that never changes, the error that is being caught (in a frame alone) -/
inductive D where
  | non | bl (b : Bool) | int (i : Int) | str (x : List Nat) | tup (xs : List D) | lst (xs : List D) | ref (n : Nat) | scr (xs : List Int) | dct (ks vs : List D) | err
/-- objects that change: lists, dicts (keys ints and texts; flat tuples; ints and texts, locked while a loop walks it), instances -/
inductive SO where
  | lst (xs : List D) | dicK (kvs : List (D × D)) | dicT (kvs : List (D × D)) | dicG (kvs : List (D × D)) | ins (c : Nat) (fs : List (Nat × D))
abbrev Store := List SO
abbrev Env := List (Option D)
inductive R (α : Type) where
  | ok (a : α) (S : Store) | exc (c : Nat) (as : List D) (S : Store) | stuck
def R.bnd {α β : Type} (r : R α) (k : α → Store → R β) : R β := match r with
  | .ok a S => k a S
  | .exc c as S => .exc c as S
  | .stuck => .stuck
abbrev EM := Env → Store → R D
abbrev TM := Env → Store → R Bool
abbrev AM := Env → Store → R (List D)
abbrev FM := List D → Store → R D
/-! ### equality, order -/
mutual
def D.eqv : D → D → Bool
  | .non, .non => true
  | .bl a, .bl b => a == b
  | .bl a, .int j => decide ((if a then (1 : Int) else 0) = j)
  | .int i, .bl b => decide (i = (if b then (1 : Int) else 0))
  | .int i, .int j => decide (i = j)
  | .str x, .str y => x == y
  | .tup xs, .tup ys => eqvL xs ys
  | .lst xs, .lst ys => eqvL xs ys
  | _, _ => false
def eqvL : List D → List D → Bool
  | [], [] => true
  | x :: xs, y :: ys => D.eqv x y && eqvL xs ys
  | _, _ => false
end
/-- no object of the store within, so deep at most -/
def D.pl : Nat → D → Bool
  | _, .non => true
  | _, .bl _ => true
  | _, .int _ => true
  | _, .str x => x.all fun c => Nat.blt c 128
  | 0, _ => false
  | n + 1, .tup xs => xs.all (D.pl n)
  | n + 1, .lst xs => xs.all (D.pl n)
  | _, _ => false
/-- a list of the store, read -/
def rd (S : Store) : D → D
  | .ref n => match S[n]? with
    | some (.lst xs) => .lst xs
    | _ => .ref n
  | d => d
def deep : Nat := 20
def dEq (S : Store) (x y : D) : Option Bool := match (rd S x).pl deep && (rd S y).pl deep with
  | true => some ((rd S x).eqv (rd S y))
  | false => none
def intsOf : List D → Option (List Int)
  | [] => some []
  | .int i :: r => (intsOf r).map (i :: ·)
  | _ => none
def lexI : List Int → List Int → Bool
  | _, [] => false
  | [], _ :: _ => true
  | x :: xs, y :: ys => if x = y then lexI xs ys else decide (x < y)
def lexN : List Nat → List Nat → Bool
  | _, [] => false
  | [], _ :: _ => true
  | x :: xs, y :: ys => if x = y then lexN xs ys else Nat.blt x y
/-- < of ints, texts, tuples of ints -/
def dLt : D → D → Option Bool
  | .int i, .int j => some (decide (i < j))
  | .str x, .str y => some (lexN x y)
  | .tup xs, .tup ys => match intsOf xs, intsOf ys with
    | some a, some b => some (lexI a b)
    | _, _ => none
  | _, _ => none
def dLe : D → D → Option Bool
  | .int i, .int j => some (decide (i ≤ j))
  | _, _ => none
/-! ### expressions -/
def eVar (i : Nat) : EM := fun env S => match env[i]? with
  | some (some .err) => .stuck
  | some (some d) => .ok d S
  | _ => .stuck
def eC (d : D) : EM := fun _ S => .ok d S
def ofO {α : Type} (o : Option α) (S : Store) : R α := match o with
  | some a => .ok a S
  | none => .stuck
def eUn (f : Store → D → Option D) (a : EM) : EM := fun env S => (a env S).bnd fun x S1 => ofO (f S1 x) S1
def eBin (f : Store → D → D → Option D) (a b : EM) : EM := fun env S => (a env S).bnd fun x S1 => (b env S1).bnd fun y S2 => ofO (f S2 x y) S2
def toB (o : Option Bool) : Option D := o.map D.bl
def bAdd (S : Store) (x y : D) : Option D := match rd S x, rd S y with
  | .int i, .int j => some (.int (i + j))
  | .str x, .str y => if Nat.ble (x.length + y.length) 10000000 then some (.str (x ++ y)) else none
  | .tup xs, .tup ys => if Nat.ble (xs.length + ys.length) 10000000 then some (.tup (xs ++ ys)) else none
  | .lst xs, .lst ys => if Nat.ble (xs.length + ys.length) 10000000 then some (.lst (xs ++ ys)) else none
  | _, _ => none
def bSub (_ : Store) : D → D → Option D
  | .int i, .int j => some (.int (i - j))
  | _, _ => none
def sml (i : Int) : Bool := decide (-18446744073709551616 < i ∧ i < 18446744073709551616)
def repL {α : Type} (n : Nat) (xs : List α) : List α := (List.replicate n xs).flatten
/-- * of ints, one of them small; a list's copies; a tuple's, two at least -/
def bMul (S : Store) (x y : D) : Option D := match rd S x, y with
  | .int i, .int j => if sml i || sml j then some (.int (i * j)) else none
  | .lst xs, .int n => if decide (-1000 ≤ n ∧ n ≤ 1000) && Nat.ble xs.length 1000 then some (.lst (repL n.toNat xs)) else none
  | .tup xs, .int n => if decide (2 ≤ n ∧ n ≤ 1000) && Nat.ble xs.length 1000 && !xs.isEmpty then some (.tup (repL n.toNat xs)) else none
  | _, _ => none
/-- // and % by a positive number below 2^30 -/
def bDiv (_ : Store) : D → D → Option D
  | .int i, .int j => if 0 < j ∧ j < 1073741824 then some (.int (i / j)) else none
  | _, _ => none
def bMod (_ : Store) : D → D → Option D
  | .int i, .int j => if 0 < j then some (.int (i % j)) else none
  | _, _ => none
def bEq (S : Store) (x y : D) : Option D := toB (dEq S x y)
def bNe (S : Store) (x y : D) : Option D := (dEq S x y).map fun b => .bl (!b)
def bLt (_ : Store) (x y : D) : Option D := toB (dLt x y)
def bLe (_ : Store) (x y : D) : Option D := toB (dLe x y)
def bGt (_ : Store) (x y : D) : Option D := match x, y with
  | .int i, .int j => some (.bl (decide (j < i)))
  | _, _ => none
def bGe (_ : Store) (x y : D) : Option D := match x, y with
  | .int i, .int j => some (.bl (decide (j ≤ i)))
  | _, _ => none
def seqOf (S : Store) (d : D) : Option (List D) := match rd S d with
  | .lst xs => some xs
  | .tup xs => some xs
  | _ => none
/-- x in a list or tuple of data -/
def memD (S : Store) (x y : D) : Option Bool := match seqOf S y with
  | some ys => if x.pl deep && ys.all (D.pl 19) then some (ys.any fun z => z.eqv x) else none
  | none => none
def uNeg (_ : Store) : D → Option D
  | .int i => some (.int (-i))
  | _ => none
def uIsN (_ : Store) : D → Option D
  | .non => some (.bl true)
  | _ => some (.bl false)
def uNotN (_ : Store) : D → Option D
  | .non => some (.bl false)
  | _ => some (.bl true)
/-! ### tests -/
def tV (a : EM) : TM := fun env S => (a env S).bnd fun x S1 => match x with
  | .bl b => .ok b S1
  | _ => .stuck
def tNot (a : TM) : TM := fun env S => (a env S).bnd fun b S1 => .ok (!b) S1
def tAnd (a b : TM) : TM := fun env S => (a env S).bnd fun x S1 => match x with
  | true => b env S1
  | false => .ok false S1
def tOr (a b : TM) : TM := fun env S => (a env S).bnd fun x S1 => match x with
  | true => .ok true S1
  | false => b env S1
def eT (a : TM) : EM := fun env S => (a env S).bnd fun b S1 => .ok (.bl b) S1
def eIf (t : TM) (a b : EM) : EM := fun env S => (t env S).bnd fun x S1 => match x with
  | true => a env S1
  | false => b env S1
/-- a < b < c: b asked once -/
def eChain (f g : Store → D → D → Option D) (a b c : EM) : EM := fun env S => (a env S).bnd fun x S1 => (b env S1).bnd fun y S2 => match f S2 x y with
  | some (.bl true) => (c env S2).bnd fun z S3 => ofO (g S3 y z) S3
  | some (.bl false) => .ok (.bl false) S2
  | _ => .stuck
/-! ### lists of expressions, displays, calls -/
def aNil : AM := fun _ S => .ok [] S
def aCons (a : EM) (r : AM) : AM := fun env S => (a env S).bnd fun x S1 => (r env S1).bnd fun xs S2 => .ok (x :: xs) S2
def eTup (a : AM) : EM := fun env S => (a env S).bnd fun xs S1 => .ok (.tup xs) S1
def eLst (a : AM) : EM := fun env S => (a env S).bnd fun xs S1 => .ok (.lst xs) S1
def eCall (f : FM) (a : AM) : EM := fun env S => (a env S).bnd fun xs S1 => f xs S1
/-- a list just made becomes an object of the store -/
def eThaw (a : EM) : EM := fun env S => (a env S).bnd fun x S1 => match x with
  | .lst xs => .ok (.ref S1.length) (S1 ++ [.lst xs])
  | _ => .stuck
def eBuilt (f : Store → List D → Option D) (a : AM) : EM := fun env S => (a env S).bnd fun xs S1 => ofO (f S1 xs) S1
/-! ### subscripts -/
def ixN (n : Nat) (i : Int) : Option Nat := if 0 ≤ i then (if i < n then some i.toNat else none) else if -(n : Int) ≤ i then some (i + n).toNat else none
def atD (xs : List D) (i : Int) : Option D := (ixN xs.length i).bind fun j => xs[j]?
def sIx (n d : Nat) : Option Int → Nat
  | none => d
  | some i => if 0 ≤ i then min i.toNat n else (i + n).toNat
def cut {α : Type} (xs : List α) (lo hi : Option Int) : List α := (xs.drop (sIx xs.length 0 lo)).take (sIx xs.length xs.length hi - sIx xs.length 0 lo)
def slD (S : Store) (x : D) (lo hi : Option Int) : Option D := match rd S x with
  | .lst xs => some (.lst (cut xs lo hi))
  | .tup xs => some (.tup (cut xs lo hi))
  | .scr xs => some (.lst ((cut xs lo hi).map D.int))
  | _ => none
abbrev OM := Env → Store → R (Option Int)
def oNo : OM := fun _ S => .ok none S
def oSo (a : EM) : OM := fun env S => (a env S).bnd fun x S1 => match x with
  | .int i => .ok (some i) S1
  | _ => .stuck
def eSl (a : EM) (l h : OM) : EM := fun env S => (a env S).bnd fun x S1 => (l env S1).bnd fun lo S2 => (h env S2).bnd fun hi S3 => ofO (slD S3 x lo hi) S3
/-! ### built-ins -/
def boolsOf : List D → Option (List Bool)
  | [] => some []
  | .bl b :: r => (boolsOf r).map (b :: ·)
  | _ => none
def fAll (S : Store) : List D → Option D
  | [d] => match rd S d with
    | .lst xs => (boolsOf xs).map fun bs => .bl (bs.all id)
    | _ => none
  | _ => none
def fAny (S : Store) : List D → Option D
  | [d] => match rd S d with
    | .lst xs => (boolsOf xs).map fun bs => .bl (bs.any id)
    | _ => none
  | _ => none
def fSum (S : Store) : List D → Option D
  | [d] => match rd S d with
    | .lst xs => (intsOf xs).map fun ns => .int ns.sum
    | _ => none
  | _ => none
def maxI : List Int → Option Int
  | [] => none
  | x :: r => some (r.foldl (fun m y => if m < y then y else m) x)
def minI : List Int → Option Int
  | [] => none
  | x :: r => some (r.foldl (fun m y => if y < m then y else m) x)
def fMax (S : Store) : List D → Option D
  | [.int i, .int j] => some (.int (if j > i then j else i))
  | [d] => match seqOf S d with
    | some xs => (intsOf xs).bind fun ns => (maxI ns).map D.int
    | none => none
  | _ => none
def fMin (S : Store) : List D → Option D
  | [.int i, .int j] => some (.int (if j < i then j else i))
  | [d] => match seqOf S d with
    | some xs => (intsOf xs).bind fun ns => (minI ns).map D.int
    | none => none
  | _ => none
def fAbs (_ : Store) : List D → Option D
  | [.int i] => some (.int (if i < 0 then -i else i))
  | _ => none
def fInt (_ : Store) : List D → Option D
  | [.int i] => some (.int i)
  | [.bl b] => some (.int (if b then 1 else 0))
  | _ => none
def fTuple (S : Store) : List D → Option D
  | [d] => (seqOf S d).map D.tup
  | _ => none
inductive Ty where
  | int | bool | str | tuple | list
def isTy (S : Store) (t : Ty) (d : D) : Option Bool := match t, rd S d with
  | _, .ref _ => none
  | _, .scr _ => none
  | _, .dct _ _ => none
  | _, .err => none
  | .int, .int _ => some true
  | .int, .bl _ => some true
  | .bool, .bl _ => some true
  | .str, .str _ => some true
  | .tuple, .tup _ => some true
  | .list, .lst _ => some true
  | _, _ => some false
def uIs (t : Ty) (S : Store) (d : D) : Option D := toB (isTy S t d)
/-! ### objects -/
def fget (k : Nat) : List (Nat × D) → Option D
  | [] => none
  | (j, d) :: r => if Nat.beq j k then some d else fget k r
def fput (k : Nat) (v : D) : List (Nat × D) → List (Nat × D)
  | [] => [(k, v)]
  | (j, d) :: r => if Nat.beq j k then (j, v) :: r else (j, d) :: fput k v r
def uFld (c k : Nat) (S : Store) : D → Option D
  | .ref n => match S[n]? with
    | some (.ins c' fs) => if Nat.beq c' c then fget k fs else none
    | _ => none
  | _ => none
/-- C(..): a new instance, then __init__ -/
def eMake (c : Nat) (init : FM) (a : AM) : EM := fun env S => (a env S).bnd fun xs S1 => (init (.ref S1.length :: xs) (S1 ++ [.ins c []])).bnd fun d S2 => match d with
  | .non => .ok (.ref S1.length) S2
  | _ => .stuck
/-! ### dicts -/
def dget (x : D) : List (D × D) → Option D
  | [] => none
  | (k, v) :: r => if k.eqv x then some v else dget x r
def dput (x v : D) (kvs : List (D × D)) : List (D × D) := if kvs.any (fun kv => kv.1.eqv x) then kvs.map (fun kv => if kv.1.eqv x then (kv.1, v) else kv) else kvs ++ [(x, v)]
def isKeyK : D → Bool
  | .int _ => true
  | .str _ => true
  | _ => false
/-- tuples that may be constants of the program (not laid by it): no keys of dicts that are written -/
class Cold where
  c : List D → Bool
variable [Cold]
def isKeyT : D → Bool
  | .tup xs => xs.all isKeyK
  | _ => false
def hotD : D → Bool
  | .tup xs => !Cold.c xs
  | _ => true
/-- the pairs of a dict, if x may be a key of it -/
def dicAt (S : Store) (d x : D) : Option (List (D × D)) := match d with
  | .ref n => match S[n]? with
    | some (.dicK kvs) => if isKeyK x then some kvs else none
    | some (.dicT kvs) => if isKeyT x then some kvs else none
    | some (.dicG kvs) => if isKeyK x then some kvs else none
    | _ => none
  | .dct ks vs => if isKeyK x then some (ks.zip vs) else none
  | _ => none
def bIn (S : Store) (x y : D) : Option Bool := match dicAt S y x with
  | some kvs => some (dget x kvs).isSome
  | none => memD S x y
def bInD (S : Store) (x y : D) : Option D := toB (bIn S x y)
def bNotIn (S : Store) (x y : D) : Option D := (bIn S x y).map fun b => .bl (!b)
/-- x[y]: a dict, a list, a tuple -/
def bIx (S : Store) (x y : D) : Option D := match dicAt S x y with
  | some kvs => dget y kvs
  | none => match rd S x, y with
    | .lst xs, .int i => atD xs i
    | .tup xs, .int i => atD xs i
    | .scr xs, .int i => atD (xs.map D.int) i
    | .str x, .int i => if Nat.ble x.length 10000000 then ((ixN x.length i).bind fun j => x[j]?).map fun c => .str [c] else none
    | _, _ => none
/-- the pairs of a dict -/
def prsOf (S : Store) : D → Option (List (D × D))
  | .ref n => match S[n]? with
    | some (.dicK kvs) => some kvs
    | some (.dicT kvs) => some kvs
    | some (.dicG kvs) => some kvs
    | _ => none
  | .dct ks vs => some (ks.zip vs)
  | _ => none
def fLen (S : Store) : List D → Option D
  | [d] => match rd S d with
    | .lst xs => some (.int xs.length)
    | .tup xs => some (.int xs.length)
    | .str x => if Nat.ble x.length 10000000 then some (.int x.length) else none
    | .scr xs => some (.int xs.length)
    | _ => (prsOf S d).map fun kvs => .int kvs.length
  | _ => none
/-- items of a list, a tuple; keys of a dict -/
def itemsOf (S : Store) (d : D) : Option (List D) := match prsOf S d with
  | some kvs => some (kvs.map (·.1))
  | none => seqOf S d
def fList (S : Store) : List D → Option D
  | [d] => (itemsOf S d).map D.lst
  | _ => none
/-! ### sorted -/
def insG {α : Type} (lt : α → α → Bool) (x : α) : List α → List α
  | [] => [x]
  | y :: r => if lt x y then x :: y :: r else y :: insG lt x r
def sortG {α : Type} (lt : α → α → Bool) (xs : List α) : List α := xs.foldl (fun acc x => insG lt x acc) []
def natsI (x : List Nat) : List Int := List.map Int.ofNat x
def rkD : D → List Int
  | .int i => [i]
  | .str x => natsI x
  | .tup xs => (intsOf xs).getD []
  | _ => []
def ltD (x y : D) : Bool := lexI (rkD x) (rkD y)
def isI : D → Bool
  | .int _ => true
  | _ => false
def isS : D → Bool
  | .str _ => true
  | _ => false
def isTI : D → Bool
  | .tup xs => (intsOf xs).isSome
  | _ => false
def noE : D → Bool
  | .tup [] => false
  | _ => true
def canSort (xs : List D) : Bool := xs.all isI || (xs.all isS || (xs.all isTI && (xs.all noE || match xs with
  | .tup [] :: _ => true
  | _ => false)))
def fSorted (S : Store) : List D → Option D
  | [d] => match itemsOf S d with
    | some xs => if canSort xs && Nat.ble xs.length 10000000 then some (.lst (sortG ltD xs)) else none
    | none => none
  | _ => none
/-! ### statements -/
inductive O where
  | nx (env : Env) (S : Store) | rt (d : D) (S : Store) | bk (env : Env) (S : Store) | ct (env : Env) (S : Store) | exc (c : Nat) (as : List D) (env : Env) (S : Store) | stuck
abbrev SM := Env → Store → O
inductive Pat where
  | nm (i : Nat) | tp (ps : List Pat)
mutual
def bindP : Pat → D → Env → Option Env
  | .nm i, d, env => some (env.set i (some d))
  | .tp ps, .tup ds, env => bindPs ps ds env
  | _, _, _ => none
def bindPs : List Pat → List D → Env → Option Env
  | [], [], env => some env
  | p :: ps, d :: ds, env => match bindP p d env with
    | some e => bindPs ps ds e
    | none => none
  | _, _, _ => none
end
def R.st (r : R D) (env : Env) (k : D → Store → O) : O := match r with
  | .ok a S => k a S
  | .exc c as S => .exc c as env S
  | .stuck => .stuck
def R.sb (r : R Bool) (env : Env) (k : Bool → Store → O) : O := match r with
  | .ok a S => k a S
  | .exc c as S => .exc c as env S
  | .stuck => .stuck
def sNil : SM := fun env S => .nx env S
def sSeq (a b : SM) : SM := fun env S => match a env S with
  | .nx e S1 => b e S1
  | o => o
def sSet (p : Pat) (a : EM) : SM := fun env S => (a env S).st env fun d S1 => match bindP p d env with
  | some e => .nx e S1
  | none => .stuck
def sRet (a : EM) : SM := fun env S => (a env S).st env fun d S1 => .rt d S1
def sRetN : SM := fun _ S => .rt .non S
def sExpr (a : EM) : SM := fun env S => (a env S).st env fun _ S1 => .nx env S1
def sIf (t : TM) (a b : SM) : SM := fun env S => (t env S).sb env fun x S1 => match x with
  | true => a env S1
  | false => b env S1
def sBrk : SM := fun env S => .bk env S
def sCont : SM := fun env S => .ct env S
def sRaise (c : Nat) (a : AM) : SM := fun env S => match a env S with
  | .ok xs S1 => .exc c xs env S1
  | .exc c as S1 => .exc c as env S1
  | .stuck => .stuck
/-- o[i] = e, a list or a dict of the store -/
def setAt (S : Store) (o i v : D) : Option Store := match o with
  | .ref n => match S[n]? with
    | some (.lst xs) => match i with
      | .int k => (ixN xs.length k).map fun j => S.set n (.lst (xs.set j v))
      | _ => none
    | some (.dicK kvs) => if isKeyK i && Nat.blt kvs.length 10000000 then some (S.set n (.dicK (dput i v kvs))) else none
    | some (.dicT kvs) => if isKeyT i && hotD i && Nat.blt kvs.length 10000000 then some (S.set n (.dicT (dput i v kvs))) else none
    | _ => none
  | _ => none
def sSub (o i e : EM) : SM := fun env S => (e env S).st env fun v S1 => (o env S1).st env fun x S2 => (i env S2).st env fun k S3 => match setAt S3 x k v with
  | some S4 => .nx env S4
  | none => .stuck
/-! ### methods of lists of the store -/
def isL (S : Store) : D → Bool
  | .ref n => match S[n]? with
    | some (.lst _) => true
    | _ => false
  | _ => false
def pushL (S : Store) (x : D) (ys : List D) : Option Store := match x with
  | .ref n => match S[n]? with
    | some (.lst xs) => if Nat.blt (xs.length + ys.length) 10000000 then some (S.set n (.lst (xs ++ ys))) else none
    | _ => none
  | _ => none
def eAppend (a e : EM) : EM := fun env S => (a env S).bnd fun x S1 => match isL S1 x with
  | true => (e env S1).bnd fun v S2 => match pushL S2 x [v] with
    | some S3 => .ok .non S3
    | none => .stuck
  | false => .stuck
def eExtend (a e : EM) : EM := fun env S => (a env S).bnd fun x S1 => match isL S1 x with
  | true => (e env S1).bnd fun v S2 => match rd S2 v with
    | .lst ys => match pushL S2 x ys with
      | some S3 => .ok .non S3
      | none => .stuck
    | _ => .stuck
  | false => .stuck
def ePop (a : EM) : EM := fun env S => (a env S).bnd fun x S1 => match x with
  | .ref n => match S1[n]? with
    | some (.lst xs) => match xs.getLast? with
      | some y => .ok y (S1.set n (.lst xs.dropLast))
      | none => .stuck
    | _ => .stuck
  | _ => .stuck
/-! ### walks -/
abbrev IM := Env → Store → R (List D)
def iSeq (a : EM) : IM := fun env S => (a env S).bnd fun x S1 => match x with
  | .lst xs => .ok xs S1
  | .tup xs => .ok xs S1
  | _ => .stuck
def rangeD (lo : Int) (n : Nat) : List D := (List.range n).map fun (k : Nat) => D.int (lo + (k : Int))
def big (i : Int) : Bool := decide (-4611686018427387904 ≤ i ∧ i < 4611686018427387904)
def rg1 (x : D) (S : Store) : R (List D) := match x with
  | .int j => if big j then .ok (rangeD 0 j.toNat) S else .stuck
  | _ => .stuck
def rg2 (x y : D) (S : Store) : R (List D) := match x, y with
  | .int i, .int j => if big i && big j then .ok (rangeD i (j - i).toNat) S else .stuck
  | _, _ => .stuck
def iRange1 (a : EM) : IM := fun env S => (a env S).bnd fun x S1 => rg1 x S1
def iRange2 (a b : EM) : IM := fun env S => (a env S).bnd fun x S1 => (b env S1).bnd fun y S2 => rg2 x y S2
def enumD (n : Nat) : List D → List D
  | [] => []
  | x :: r => .tup [.int n, x] :: enumD (n + 1) r
def iEnum (a : EM) : IM := fun env S => (iSeq a env S).bnd fun xs S1 => .ok (enumD 0 xs) S1
def zipD : List D → List D → List D
  | x :: xs, y :: ys => .tup [x, y] :: zipD xs ys
  | _, _ => []
def iZip (a b : EM) : IM := fun env S => (iSeq a env S).bnd fun xs S1 => (iSeq b env S1).bnd fun ys S2 => .ok (zipD xs ys) S2
def goFor (p : Pat) (body : SM) : List D → Env → Store → O
  | [], env, S => .nx env S
  | d :: ds, env, S => match bindP p d env with
    | none => .stuck
    | some e => match body e S with
      | .nx e1 S1 => goFor p body ds e1 S1
      | .ct e1 S1 => goFor p body ds e1 S1
      | .bk e1 S1 => .nx e1 S1
      | o => o
def sFor (p : Pat) (it : IM) (body : SM) : SM := fun env S => match it env S with
  | .ok ds S1 => goFor p body ds env S1
  | .exc c as S1 => .exc c as env S1
  | .stuck => .stuck
def goWhile (t : TM) (body : SM) : Nat → Env → Store → O
  | 0, _, _ => .stuck
  | n + 1, env, S => (t env S).sb env fun b S1 => match b with
    | false => .nx env S1
    | true => match body env S1 with
      | .nx e1 S2 => goWhile t body n e1 S2
      | .ct e1 S2 => goWhile t body n e1 S2
      | .bk e1 S2 => .nx e1 S2
      | o => o
def sWhile (F : Nat) (t : TM) (body : SM) : SM := fun env S => goWhile t body F env S
/-! ### comprehensions: own slots are wiped within -/
def wipeE : List Nat → Env → Env
  | [], env => env
  | i :: r, env => (wipeE r env).set i none
def goLc (own : List Nat) (p : Pat) (t : TM) (elt : EM) (env : Env) : List D → List D → Store → R D
  | [], acc, S => .ok (.lst acc) S
  | d :: ds, acc, S => match bindP p d (wipeE own env) with
    | none => .stuck
    | some e => match t e S with
      | .ok false S1 => goLc own p t elt env ds acc S1
      | .ok true S1 => match elt e S1 with
        | .ok y S2 => if Nat.blt acc.length 10000000 then goLc own p t elt env ds (acc ++ [y]) S2 else .stuck
        | _ => .stuck
      | _ => .stuck
def eLc (own : List Nat) (p : Pat) (it : IM) (t : TM) (elt : EM) : EM := fun env S => (it env S).bnd fun ds S1 => goLc own p t elt env ds [] S1
def tYes : TM := fun _ S => .ok true S
/-! ### defs -/
mutual
/-- no object of the store is named -/
def D.nr : D → Bool
  | .ref _ => false
  | .tup xs => nrL xs
  | .lst xs => nrL xs
  | .dct _ vs => nrL vs
  | .err => false
  | _ => true
def nrL : List D → Bool
  | [] => true
  | x :: r => D.nr x && nrL r
end
def envOf (n : Nat) (xs : List D) : Env := xs.map some ++ List.replicate (n - xs.length) none
def ofO2 (o : O) : R D := match o with
  | .nx _ S => .ok .non S
  | .rt d S => .ok d S
  | .exc c as _ S => .exc c as S
  | _ => .stuck
/-- a list of its own comes back as a value -/
def freeze (S : Store) (d : D) : Option D := match d with
  | .ref k => match S[k]? with
    | some (.lst xs) => if nrL xs then some (.lst xs) else none
    | _ => none
  | d => if d.nr then some d else none
/-- behind a call that names none of the caller's objects and keeps none of its own -/
def pureR (S0 : Store) (r : R D) : R D := match r with
  | .ok d S => ofO (freeze S d) S0
  | .exc c as _ => if nrL as then .exc c as S0 else .stuck
  | .stuck => .stuck
/-- a def of n slots, m of them parameters: of data alone, over a store of its own -/
def fnP (m n : Nat) (body : SM) : FM := fun xs S => match xs.length == m && nrL xs with
  | true => pureR S (ofO2 (body (envOf n xs) []))
  | false => .stuck
/-- .. over the caller's store -/
def fnR (m n : Nat) (body : SM) : FM := fun xs S => match xs.length == m with
  | true => ofO2 (body (envOf n xs) S)
  | false => .stuck
end G
end

section
set_option Elab.async false
set_option linter.all false
set_option maxRecDepth 100000
set_option maxHeartbeats 4000000
/-! G1: the judgements over data (G0) stand over the hand layer's. By an AI agent. -/
namespace G
open PySem PySem.Spec PyProof.Rows L2

/-- where classes stand, what fields are called -/
structure Nm where
  cad : Nat → Addr
  fnm : Nat → Str
  xad : Nat → Addr
  xfl : Nat → List Str
  fz : Addr → Option (Obj × List (Key × V))
  err : Option Addr

/-- the addresses of the store's objects; of objects that nobody here names or changes; the locked dicts -/
structure Pl where
  v : List Addr
  h : List Addr
  k : List (Addr × Obj × List (Key × V))
def Pl.push (ρ : Pl) (p : Addr) : Pl := ⟨ρ.v ++ [p], ρ.h, ρ.k⟩
variable [Cold]
/-- a tuple: its cells; laid by the program unless it may be a constant -/
def TupR (K : PySem.W.Frag) (H : Hp) (p : Addr) (vs : List V) (c : Bool) : Prop := SqT K H p vs ∧ (c = false → H p = some (.tup vs))
/-- a list that never changes: the caller's, or one of the written part -/
def ScrR (K : PySem.W.Frag) (H : Hp) (a : Addr) (xs : List V) : Prop := (∃ o, H a = some (.frz o (.lst xs))) ∨ ∃ (o : Obj) (its : Array Value) (n : Nat), K.lookup a = some o ∧ o.cls = .type "list" ∧ o.dict = none ∧ o.data = .seq its n ∧ its.size ≤ sizeLine ∧ Vals xs its.toList
theorem ScrR.sql {K : PySem.W.Frag} {H : Hp} {a : Addr} {xs : List V} (h : ScrR K H a xs) : SqL K H a xs := h.elim (fun ⟨o, h⟩ => .inl (.inr ⟨o, h⟩)) (fun h => .inr h)
def kD : D → Option Key
  | .int i => some (.inl i)
  | .str x => some (.inr ⟨x.toArray⟩)
  | _ => none
def kDs : List D → Option (List Key)
  | [] => some []
  | d :: r => match kD d, kDs r with
    | some k, some ks => some (k :: ks)
    | _, _ => none
def kT : D → Option (List Key)
  | .tup ds => kDs ds
  | _ => none
section
variable (K : PySem.W.Frag)
mutual
def Rep (ρ : Pl) (H : Hp) : D → V → Prop
  | .non, v => v = .non
  | .bl b, v => v = .bl b
  | .int i, v => v = .int i
  | .str x, v => v = .str ⟨x.toArray⟩
  | .tup ds, v => ∃ p vs, v = .ref p ∧ TupR K H p vs (Cold.c ds) ∧ RepL ρ H ds vs
  | .lst ds, v => ∃ p vs, v = .ref p ∧ (p ∉ ρ.v ∧ p ∉ ρ.h) ∧ H p = some (.lst vs) ∧ RepL ρ H ds vs
  | .ref n, v => ∃ a, v = .ref a ∧ ρ.v[n]? = some a
  | .scr xs, v => ∃ a, v = .ref a ∧ ScrR K H a (xs.map V.int)
  | .dct ks ds, v => ∃ a o keys vs, v = .ref a ∧ (a ∉ ρ.v ∧ a ∉ ρ.h) ∧ H a = some (.frz o (.dK (keys.zip vs))) ∧ kDs ks = some keys ∧ keys.length = ds.length ∧ RepL ρ H ds vs
  | .err, _ => False
def RepL (ρ : Pl) (H : Hp) : List D → List V → Prop
  | [], vs => vs = []
  | d :: ds, vs => ∃ v r, vs = v :: r ∧ Rep ρ H d v ∧ RepL ρ H ds r
end
variable (N : Nm)
def RepF (ρ : Pl) (H : Hp) : List (Nat × D) → List (Str × V) → Prop
  | [], vs => vs = []
  | (k, d) :: r, vs => ∃ v q, vs = (N.fnm k, v) :: q ∧ Rep K ρ H d v ∧ RepF ρ H r q
def RepK {κ : Type} (kf : D → Option κ) (ρ : Pl) (H : Hp) : List (D × D) → List (κ × V) → Prop
  | [], vs => vs = []
  | (x, d) :: r, vs => ∃ k v q, vs = (k, v) :: q ∧ kf x = some k ∧ Rep K ρ H d v ∧ RepK kf ρ H r q
def SRep (ρ : Pl) (H : Hp) (a : Addr) : SO → Prop
  | .lst ds => ∃ vs, H a = some (.lst vs) ∧ RepL K ρ H ds vs
  | .dicK kvs => ∃ q, H a = some (.dK q) ∧ RepK K kD ρ H kvs q
  | .dicT kvs => ∃ q, H a = some (.dT q) ∧ RepK K kT ρ H kvs q
  | .dicG kvs => ∃ o q, (a, o, q) ∈ ρ.k ∧ H a = some (.frz o (.dK q)) ∧ RepK K kD ρ H kvs q
  | .ins c fs => ∃ dx q, H a = some (.ins (N.cad c) dx q) ∧ RepF K N ρ H fs q
/-- an object that may change -/
def Mb (o : Option HO) : Prop := (∃ vs, o = some (.lst vs)) ∨ (∃ q, o = some (.dK q)) ∨ (∃ q, o = some (.dT q)) ∨ (∃ c d q, o = some (.ins c d q)) ∨ (∃ b q, o = some (.frz b (.dK q)))
structure Rel (ρ : Pl) (S : Store) (H : Hp) : Prop where
  len : ρ.v.length = S.length
  nd : ρ.v.Nodup
  hh : ∀ a ∈ ρ.h, Mb (H a) ∧ a ∉ ρ.v
  lk : ∀ x ∈ ρ.k, H x.1 = some (.frz x.2.1 (.dK x.2.2))
  at_ : ∀ (n : Nat) (so : SO), S[n]? = some so → ∃ a : Addr, ρ.v[n]? = some a ∧ SRep K N ρ H a so
  cst : ∀ (a : Addr) (o : Obj) (q : List (Key × V)), N.fz a = some (o, q) → H a = some (.frz o (.dK q)) ∧ a ∉ ρ.v ∧ a ∉ ρ.h
end

structure Step (ρ : Pl) (H : Hp) (ρ' : Pl) (H' : Hp) : Prop where
  pre : ρ.v <+: ρ'.v
  hid : ρ'.h = ρ.h
  lk : ρ'.k = ρ.k
  keep : ∀ a o, H a = some o → a ∉ ρ.v → H' a = some o
  new : ∀ a ∈ ρ'.v, a ∈ ρ.v ∨ H a = none
/-- what descriptions lean on -/
structure Stp (ρ : Pl) (H : Hp) (ρ' : Pl) (H' : Hp) : Prop where
  pre : ρ.v <+: ρ'.v
  kp : ∀ a o, H a = some o → a ∉ ρ.v → a ∉ ρ.h → H' a = some o ∧ a ∉ ρ'.v ∧ a ∉ ρ'.h
theorem Step.w {ρ ρ' : Pl} {H H' : Hp} (s : Step ρ H ρ' H') : Stp ρ H ρ' H' := by
  refine ⟨s.pre, fun a o e n m => ⟨s.keep a o e n, fun z => ?_, by rw [s.hid]; exact m⟩⟩
  rcases s.new a z with q | q
  · exact n q
  · rw [e] at q; cases q
theorem Stp.get {ρ ρ' : Pl} {H H' : Hp} (s : Stp ρ H ρ' H') {n : Nat} {a : Addr} (h : ρ.v[n]? = some a) : ρ'.v[n]? = some a := by
  obtain ⟨t, e⟩ := s.pre
  rw [← e, List.getElem?_append_left (by
    have := List.getElem?_eq_some_iff.mp h
    exact this.1)]
  exact h
theorem Step.refl (ρ : Pl) (H : Hp) : Step ρ H ρ H := ⟨List.prefix_refl _, rfl, rfl, fun _ _ h _ => h, fun _ h => .inl h⟩
theorem Step.trans {ρ ρ1 ρ2 : Pl} {H H1 H2 : Hp} (a : Step ρ H ρ1 H1) (b : Step ρ1 H1 ρ2 H2) : Step ρ H ρ2 H2 := by
  refine ⟨a.pre.trans b.pre, b.hid.trans a.hid, b.lk.trans a.lk, fun c o e n => ?_, fun c hc => ?_⟩
  · refine b.keep c o (a.keep c o e n) fun hc => ?_
    rcases a.new c hc with h | h
    · exact n h
    · rw [e] at h; cases h
  · rcases b.new c hc with h | h
    · exact a.new c h
    · by_cases q : c ∈ ρ.v
      · exact .inl q
      · refine .inr ?_
        cases e : H c with
        | none => rfl
        | some o => rw [a.keep c o e q] at h; cases h
theorem Step.get {ρ ρ' : Pl} {H H' : Hp} (s : Step ρ H ρ' H') {n : Nat} {a : Addr} (h : ρ.v[n]? = some a) : ρ'.v[n]? = some a := by
  obtain ⟨t, e⟩ := s.pre
  rw [← e, List.getElem?_append_left (by
    have := List.getElem?_eq_some_iff.mp h
    exact this.1)]
  exact h
/-- a new object beside the store -/
theorem Step.fresh {ρ : Pl} {H : Hp} {p : Addr} {o : HO} (hp : H p = none) : Step ρ H ρ (upd H p o) :=
  ⟨List.prefix_refl _, rfl, rfl, fun a _ e _ => by rw [upd_ne (ne_of_none e hp)]; exact e, fun _ h => .inl h⟩
/-- an object of the store changed -/
theorem Step.write {ρ : Pl} {H : Hp} {a : Addr} {o : HO} (ha : a ∈ ρ.v) : Step ρ H ρ (upd H a o) :=
  ⟨List.prefix_refl _, rfl, rfl, fun b _ e n => by rw [upd_ne (fun z => n (by rw [z]; exact ha))]; exact e, fun _ h => .inl h⟩
/-- a new object of the store -/
theorem Step.push {ρ : Pl} {H : Hp} {p : Addr} {o : HO} (hp : H p = none) : Step ρ H (ρ.push p) (upd H p o) :=
  ⟨⟨[p], rfl⟩, rfl, rfl, fun a _ e _ => by rw [upd_ne (ne_of_none e hp)]; exact e, fun a h => by
    rcases List.mem_append.mp h with h | h
    · exact .inl h
    · rw [List.mem_singleton.mp h]; exact .inr hp⟩

section
variable {K : PySem.W.Frag} {N : Nm} {ρ ρ' : Pl} {S S' : Store} {H H' : Hp}
theorem Mb.ne {o : Option HO} (h : Mb o) : o ≠ none := by
  rcases h with ⟨_, e⟩ | ⟨_, e⟩ | ⟨_, e⟩ | ⟨_, _, _, e⟩ | ⟨_, _, e⟩ <;> (rw [e]; exact fun z => nomatch z)
theorem Mb.noTup {vs : List V} (h : Mb (some (.tup vs))) : False := by
  rcases h with ⟨_, e⟩ | ⟨_, e⟩ | ⟨_, e⟩ | ⟨_, _, _, e⟩ | ⟨_, _, e⟩ <;> cases e
theorem Mb.noFrz {o : Obj} {u : HO} (n : ∀ q, u ≠ .dK q) (h : Mb (some (.frz o u))) : False := by
  rcases h with ⟨_, e⟩ | ⟨_, e⟩ | ⟨_, e⟩ | ⟨_, _, _, e⟩ | ⟨_, _, e⟩ <;> cases e
  exact n _ rfl
theorem SRep.some {a : Addr} {so : SO} (h : SRep K N ρ H a so) : Mb (H a) := by
  cases so with
  | lst ds => obtain ⟨vs, e, _⟩ := h; exact .inl ⟨vs, e⟩
  | dicK kvs => obtain ⟨q, e, _⟩ := h; exact .inr (.inl ⟨q, e⟩)
  | dicT kvs => obtain ⟨q, e, _⟩ := h; exact .inr (.inr (.inl ⟨q, e⟩))
  | dicG kvs => obtain ⟨o, q, _, e, _⟩ := h; exact .inr (.inr (.inr (.inr ⟨o, q, e⟩)))
  | ins c fs => obtain ⟨d, q, e, _⟩ := h; exact .inr (.inr (.inr (.inl ⟨_, d, q, e⟩)))
theorem Rel.mem (r : Rel K N ρ S H) {a : Addr} (h : a ∈ ρ.v) : Mb (H a) := by
  obtain ⟨n, hn, e⟩ := List.getElem_of_mem h
  have hS : n < S.length := by rw [← r.len]; exact hn
  obtain ⟨b, hb, q⟩ := r.at_ n S[n] (List.getElem?_eq_getElem hS)
  rw [List.getElem?_eq_getElem hn] at hb
  cases hb
  rw [← e]
  exact q.some
theorem Rel.not_none (r : Rel K N ρ S H) {a : Addr} (h : a ∈ ρ.v) : H a ≠ none := (r.mem h).ne
theorem Rel.notTup (r : Rel K N ρ S H) {a : Addr} {vs : List V} (h : H a = some (.tup vs)) : a ∉ ρ.v ∧ a ∉ ρ.h :=
  ⟨fun hm => (h ▸ r.mem hm : Mb (some (.tup vs))).noTup, fun hm => (h ▸ (r.hh a hm).1 : Mb (some (.tup vs))).noTup⟩
theorem Rel.notFrz (r : Rel K N ρ S H) {a : Addr} {o : Obj} {u : HO} (n : ∀ q, u ≠ .dK q) (h : H a = some (.frz o u)) : a ∉ ρ.v ∧ a ∉ ρ.h :=
  ⟨fun hm => (h ▸ r.mem hm : Mb (some (.frz o u))).noFrz n, fun hm => (h ▸ (r.hh a hm).1 : Mb (some (.frz o u))).noFrz n⟩
theorem Rel.kwT (r : Rel K N ρ S H) (st : Stp ρ H ρ' H') {p : Addr} {vs : List V} (h : SqT K H p vs) : SqT K H' p vs := by
  rcases h with (h | ⟨o, h⟩) | h
  · exact .inl (.inl (st.kp _ _ h (r.notTup h).1 (r.notTup h).2).1)
  · exact .inl (.inr ⟨o, (st.kp _ _ h (r.notFrz (by intro _ z; cases z) h).1 (r.notFrz (by intro _ z; cases z) h).2).1⟩)
  · exact .inr h
theorem Rel.kwR (r : Rel K N ρ S H) (st : Stp ρ H ρ' H') {p : Addr} {vs : List V} {c : Bool} (h : TupR K H p vs c) : TupR K H' p vs c :=
  ⟨r.kwT st h.1, fun z => (st.kp _ _ (h.2 z) (r.notTup (h.2 z)).1 (r.notTup (h.2 z)).2).1⟩
theorem Rel.keepT (r : Rel K N ρ S H) (st : Step ρ H ρ' H') {p : Addr} {vs : List V} (h : SqT K H p vs) : SqT K H' p vs := r.kwT st.w h
mutual
theorem Rep.kw (r : Rel K N ρ S H) (st : Stp ρ H ρ' H') : ∀ (d : D) (v : V), Rep K ρ H d v → Rep K ρ' H' d v
  | .non, _, h => h
  | .bl _, _, h => h
  | .int _, _, h => h
  | .str _, _, h => h
  | .tup ds, v, h => by
    obtain ⟨p, vs, e, t, q⟩ := h
    exact ⟨p, vs, e, r.kwR st t, RepL.kw r st ds vs q⟩
  | .lst ds, v, h => by
    obtain ⟨p, vs, e, n, t, q⟩ := h
    obtain ⟨k1, k2⟩ := st.kp _ _ t n.1 n.2
    exact ⟨p, vs, e, k2, k1, RepL.kw r st ds vs q⟩
  | .ref n, v, h => by
    obtain ⟨a, e, q⟩ := h
    exact ⟨a, e, st.get q⟩
  | .scr xs, v, h => by
    obtain ⟨a, e, q⟩ := h
    refine ⟨a, e, ?_⟩
    rcases q with ⟨o, q⟩ | q
    · exact .inl ⟨o, (st.kp _ _ q (r.notFrz (by intro _ z; cases z) q).1 (r.notFrz (by intro _ z; cases z) q).2).1⟩
    · exact .inr q
  | .dct ks ds, v, h => by
    obtain ⟨a, o, keys, vs, e, n, q, hk, hl, hr⟩ := h
    obtain ⟨k1, k2⟩ := st.kp _ _ q n.1 n.2
    exact ⟨a, o, keys, vs, e, k2, k1, hk, hl, RepL.kw r st ds vs hr⟩
  | .err, _, h => h
theorem RepL.kw (r : Rel K N ρ S H) (st : Stp ρ H ρ' H') : ∀ (ds : List D) (vs : List V), RepL K ρ H ds vs → RepL K ρ' H' ds vs
  | [], _, h => h
  | d :: ds, vs, h => by
    obtain ⟨v, q, e, h1, h2⟩ := h
    exact ⟨v, q, e, Rep.kw r st d v h1, RepL.kw r st ds q h2⟩
end
theorem RepF.kw (r : Rel K N ρ S H) (st : Stp ρ H ρ' H') : ∀ (fs : List (Nat × D)) (q : List (Str × V)), RepF K N ρ H fs q → RepF K N ρ' H' fs q
  | [], _, h => h
  | (k, d) :: fs, q, h => by
    obtain ⟨v, q', e, h1, h2⟩ := h
    exact ⟨v, q', e, Rep.kw r st d v h1, RepF.kw r st fs q' h2⟩
theorem RepK.kw {κ : Type} {kf : D → Option κ} (r : Rel K N ρ S H) (st : Stp ρ H ρ' H') : ∀ (fs : List (D × D)) (q : List (κ × V)), RepK K kf ρ H fs q → RepK K kf ρ' H' fs q
  | [], _, h => h
  | (x, d) :: fs, q, h => by
    obtain ⟨k, v, q', e, hk, h1, h2⟩ := h
    exact ⟨k, v, q', e, hk, Rep.kw r st d v h1, RepK.kw r st fs q' h2⟩
theorem SRep.kw (r : Rel K N ρ S H) (st : Stp ρ H ρ' H') {a : Addr} {so : SO} (hk : ∀ x ∈ ρ.k, x.1 = a → x ∈ ρ'.k) (e : H' a = H a) (h : SRep K N ρ H a so) : SRep K N ρ' H' a so := by
  cases so with
  | lst ds => obtain ⟨vs, q, t⟩ := h; exact ⟨vs, e.trans q, RepL.kw r st _ _ t⟩
  | dicK kvs => obtain ⟨vs, q, t⟩ := h; exact ⟨vs, e.trans q, RepK.kw r st _ _ t⟩
  | dicT kvs => obtain ⟨vs, q, t⟩ := h; exact ⟨vs, e.trans q, RepK.kw r st _ _ t⟩
  | dicG kvs => obtain ⟨o, vs, m, q, t⟩ := h; exact ⟨o, vs, hk _ m rfl, e.trans q, RepK.kw r st _ _ t⟩
  | ins c fs => obtain ⟨d, vs, q, t⟩ := h; exact ⟨d, vs, e.trans q, RepF.kw r st _ _ t⟩
/-- in a frame: the caught error, too -/
def VRep (K : PySem.W.Frag) (N : Nm) (ρ : Pl) (H : Hp) (d : D) (v : V) : Prop := match d with
  | .err => ∃ a, N.err = some a ∧ v = .ref a
  | d => Rep K ρ H d v
theorem VRep.of {d : D} {v : V} (h : Rep K ρ H d v) : VRep K N ρ H d v := by
  cases d <;> first | exact h | exact h.elim
theorem VRep.rep {d : D} {v : V} (n : d ≠ .err) (h : VRep K N ρ H d v) : Rep K ρ H d v := by
  cases d <;> first | exact h | exact absurd rfl n
theorem VRep.kw (r : Rel K N ρ S H) (st : Stp ρ H ρ' H') {d : D} {v : V} (h : VRep K N ρ H d v) : VRep K N ρ' H' d v := by
  cases d <;> first | exact Rep.kw r st _ _ h | exact h
theorem VRep.keep (r : Rel K N ρ S H) (st : Step ρ H ρ' H') {d : D} {v : V} (h : VRep K N ρ H d v) : VRep K N ρ' H' d v := VRep.kw r st.w h
theorem Rel.cstW (r : Rel K N ρ S H) (st : Stp ρ H ρ' H') (a : Addr) (o : Obj) (q : List (Key × V)) (e : N.fz a = some (o, q)) : H' a = some (.frz o (.dK q)) ∧ a ∉ ρ'.v ∧ a ∉ ρ'.h :=
  st.kp _ _ (r.cst a o q e).1 (r.cst a o q e).2.1 (r.cst a o q e).2.2
theorem Rep.keep (r : Rel K N ρ S H) (st : Step ρ H ρ' H') (d : D) (v : V) (h : Rep K ρ H d v) : Rep K ρ' H' d v := Rep.kw r st.w d v h
theorem RepL.keep (r : Rel K N ρ S H) (st : Step ρ H ρ' H') (ds : List D) (vs : List V) (h : RepL K ρ H ds vs) : RepL K ρ' H' ds vs := RepL.kw r st.w ds vs h
theorem RepF.keep (r : Rel K N ρ S H) (st : Step ρ H ρ' H') (fs : List (Nat × D)) (q : List (Str × V)) (h : RepF K N ρ H fs q) : RepF K N ρ' H' fs q := RepF.kw r st.w fs q h
theorem RepK.keep {κ : Type} {kf : D → Option κ} (r : Rel K N ρ S H) (st : Step ρ H ρ' H') (fs : List (D × D)) (q : List (κ × V)) (h : RepK K kf ρ H fs q) : RepK K kf ρ' H' fs q := RepK.kw r st.w fs q h
theorem SRep.keep (r : Rel K N ρ S H) (st : Step ρ H ρ' H') {a : Addr} {so : SO} (e : H' a = H a) (h : SRep K N ρ H a so) : SRep K N ρ' H' a so := SRep.kw r st.w (fun x h _ => by rw [st.lk]; exact h) e h
/-- a new object beside the store -/
theorem Rel.fresh (r : Rel K N ρ S H) {p : Addr} {o : HO} (hp : H p = none) : Rel K N ρ S (upd H p o) := by
  refine ⟨r.len, r.nd, fun a ha => ?_, fun x hx => ?_, fun n so e => ?_, r.cstW (Step.fresh hp).w⟩
  · obtain ⟨h1, h2⟩ := r.hh a ha
    exact ⟨by rw [upd_ne (fun z => h1.ne (by rw [z]; exact hp))]; exact h1, h2⟩
  · rw [upd_ne (ne_of_none (r.lk x hx) hp)]; exact r.lk x hx
  · obtain ⟨a, h1, h2⟩ := r.at_ n so e
    have na : a ≠ p := fun z => r.not_none (List.mem_of_getElem? h1) (z ▸ hp)
    exact ⟨a, h1, h2.keep r (Step.fresh hp) (upd_ne na)⟩
/-- a new object of the store -/
theorem Rel.push (r : Rel K N ρ S H) {p : Addr} {o : HO} {so : SO} (hp : H p = none) (hs : SRep K N (ρ.push p) (upd H p o) p so) : Rel K N (ρ.push p) (S ++ [so]) (upd H p o) := by
  have st : Step ρ H (ρ.push p) (upd H p o) := Step.push hp
  have np : p ∉ ρ.v := fun z => r.not_none z hp
  refine ⟨by simp [Pl.push, r.len], ?_, fun a ha => ?_, fun x hx => by rw [upd_ne (ne_of_none (r.lk x hx) hp)]; exact r.lk x hx, fun n so' e => ?_, r.cstW st.w⟩
  · show (ρ.v ++ [p]).Nodup
    rw [List.nodup_append]
    refine ⟨r.nd, by simp, fun a ha b hb => ?_⟩
    rw [List.mem_singleton.mp hb]
    exact fun z => np (z ▸ ha)
  · obtain ⟨h1, h2⟩ := r.hh a ha
    have na : a ≠ p := fun z => h1.ne (by rw [z]; exact hp)
    exact ⟨by rw [upd_ne na]; exact h1, fun z => by
      rcases List.mem_append.mp z with z | z
      · exact h2 z
      · exact na (List.mem_singleton.mp z)⟩
  · by_cases hn : n < S.length
    · rw [List.getElem?_append_left hn] at e
      obtain ⟨a, h1, h2⟩ := r.at_ n so' e
      have na : a ≠ p := fun z => np (z ▸ List.mem_of_getElem? h1)
      exact ⟨a, st.get h1, h2.keep r st (upd_ne na)⟩
    · rw [List.getElem?_append_right (by omega)] at e
      have hz : n - S.length = 0 := by
        have := (List.getElem?_eq_some_iff.mp e).1
        simp at this; omega
      rw [hz] at e
      have : so = so' := by simpa using e
      subst this
      refine ⟨p, ?_, hs⟩
      show (ρ.v ++ [p])[n]? = _
      rw [List.getElem?_append_right (by rw [r.len]; omega), r.len, hz]
      rfl
/-- an object of the store changed -/
theorem Rel.write (r : Rel K N ρ S H) {n : Nat} {a : Addr} {o : HO} {so : SO} (hn : ρ.v[n]? = some a) (hmu : ∀ b q, H a ≠ some (.frz b (.dK q))) (hs : SRep K N ρ (upd H a o) a so) : Rel K N ρ (S.set n so) (upd H a o) := by
  have ha : a ∈ ρ.v := List.mem_of_getElem? hn
  refine ⟨by simp [r.len], r.nd, fun b hb => ?_, fun x hx => by rw [upd_ne (fun z => hmu _ _ (by rw [← z]; exact r.lk x hx))]; exact r.lk x hx, fun m so' e => ?_, r.cstW (Step.write ha).w⟩
  · obtain ⟨h1, h2⟩ := r.hh b hb
    exact ⟨by rw [upd_ne (fun z => h2 (by rw [z]; exact ha))]; exact h1, h2⟩
  · by_cases hm : n = m
    · subst hm
      have hl : n < S.length := by rw [← r.len]; exact (List.getElem?_eq_some_iff.mp hn).1
      rw [List.getElem?_set_self hl] at e
      cases e
      exact ⟨a, hn, hs⟩
    · rw [List.getElem?_set_ne hm] at e
      obtain ⟨b, h1, h2⟩ := r.at_ m so' e
      have nb : b ≠ a := fun z => by
        subst z
        have i1 := List.getElem?_eq_some_iff.mp hn
        have i2 := List.getElem?_eq_some_iff.mp h1
        exact hm ((List.getElem_inj r.nd).mp (i1.2.trans i2.2.symm))
      exact ⟨b, h1, h2.keep r (Step.write ha) (upd_ne nb)⟩
/-- the same store behind steps that change none of it -/
theorem Rel.same (r : Rel K N ρ S H) (k : ∀ a o, H a = some o → H' a = some o) : Rel K N ρ S H' := by
  have st : Step ρ H ρ H' := ⟨List.prefix_refl _, rfl, rfl, fun a o e _ => k a o e, fun _ h => .inl h⟩
  refine ⟨r.len, r.nd, fun a ha => ⟨?_, (r.hh a ha).2⟩, fun x hx => k _ _ (r.lk x hx), fun n so e => ?_, r.cstW st.w⟩
  · have h1 := (r.hh a ha).1
    cases q : H a with
    | none => exact absurd q h1.ne
    | some o => rw [k a o q]; rw [q] at h1; exact h1
  · obtain ⟨a, h1, h2⟩ := r.at_ n so e
    refine ⟨a, h1, h2.keep r st ?_⟩
    cases q : H a with
    | none => exact absurd q (r.not_none (List.mem_of_getElem? h1))
    | some o => exact k a o q
end
end G
end

section
set_option Elab.async false
set_option linter.all false
set_option maxRecDepth 100000
set_option maxHeartbeats 4000000
/-! G2: judgements over data; names, constants, operators, tests, displays, calls. By an AI agent. -/
namespace G
open PySem PySem.Spec PyProof.Rows L2
variable [Cold]
structure Fr (K : PySem.W.Frag) (N : Nm) (env : Env) (S : Store) (ρ : Pl) (σ : L2.St) (H : Hp) : Prop where
  rel : Rel K N ρ S H
  len : env.length = σ.length
  get : ∀ (i : Nat) (d : D), env[i]? = some (some d) → ∃ v : V, σ[i]? = some (some v) ∧ VRep K N ρ H d v
/-- an exception's own dict -/
def XRep (K : PySem.W.Frag) (N : Nm) (ρ : Pl) (H : Hp) (c : Nat) (as : List D) (oe : Option Addr) : Prop :=
  (as = [] ∧ oe = none) ∨ (as ≠ [] ∧ ∃ d vs, oe = some d ∧ RepL K ρ H as vs ∧ H d = some (.xd ((N.xfl c).zip vs)))
section
variable (K : PySem.W.Frag) (N : Nm)
def PostE (W : WX) (ρ : Pl) (σ : L2.St) (H : Hp) (r : R D) (Q : VK) : Prop := match r with
  | .ok d S' => ∀ (ρ' : Pl) (v : V) (H' : Hp), Step ρ H ρ' H' → Rel K N ρ' S' H' → Rep K ρ' H' d v → Q v H'
  | .exc c as S' => ∀ (ρ' : Pl) (oe : Option Addr) (H' : Hp), Step ρ H ρ' H' → Rel K N ρ' S' H' → XRep K N ρ' H' c as oe → W (.ref (N.xad c)) oe σ H'
  | .stuck => False
def PostB (W : WX) (ρ : Pl) (σ : L2.St) (H : Hp) (r : R Bool) (Q : Bool → Hp → Prop) : Prop := match r with
  | .ok b S' => ∀ (ρ' : Pl) (H' : Hp), Step ρ H ρ' H' → Rel K N ρ' S' H' → Q b H'
  | .exc c as S' => ∀ (ρ' : Pl) (oe : Option Addr) (H' : Hp), Step ρ H ρ' H' → Rel K N ρ' S' H' → XRep K N ρ' H' c as oe → W (.ref (N.xad c)) oe σ H'
  | .stuck => False
def PostA (W : WX) (ρ : Pl) (σ : L2.St) (H : Hp) (r : R (List D)) (Q : List V → Hp → Prop) : Prop := match r with
  | .ok ds S' => ∀ (ρ' : Pl) (vs : List V) (H' : Hp), Step ρ H ρ' H' → Rel K N ρ' S' H' → RepL K ρ' H' ds vs → Q vs H'
  | .exc c as S' => ∀ (ρ' : Pl) (oe : Option Addr) (H' : Hp), Step ρ H ρ' H' → Rel K N ρ' S' H' → XRep K N ρ' H' c as oe → W (.ref (N.xad c)) oe σ H'
  | .stuck => False
def PostO (W : WX) (ρ : Pl) (H : Hp) (o : O) (E : Ends) : Prop := match o with
  | .nx e S' => ∀ (ρ' : Pl) (σ' : L2.St) (H' : Hp), Step ρ H ρ' H' → Fr K N e S' ρ' σ' H' → E.nx σ' H'
  | .bk e S' => ∀ (ρ' : Pl) (σ' : L2.St) (H' : Hp), Step ρ H ρ' H' → Fr K N e S' ρ' σ' H' → E.bk σ' H'
  | .ct e S' => ∀ (ρ' : Pl) (σ' : L2.St) (H' : Hp), Step ρ H ρ' H' → Fr K N e S' ρ' σ' H' → E.ct σ' H'
  | .rt d S' => ∀ (ρ' : Pl) (v : V) (H' : Hp), Step ρ H ρ' H' → Rel K N ρ' S' H' → Rep K ρ' H' d v → E.rt v H'
  | .exc c as e S' => ∀ (ρ' : Pl) (σ' : L2.St) (oe : Option Addr) (H' : Hp), Step ρ H ρ' H' → Fr K N e S' ρ' σ' H' → XRep K N ρ' H' c as oe → W (.ref (N.xad c)) oe σ' H'
  | .stuck => False
def tE (W : WX) (m : EM) : TE := fun σ H Q => ∃ env S ρ, Fr K N env S ρ σ H ∧ PostE K N W ρ σ H (m env S) Q
def tB_ (W : WX) (m : TM) : TT := fun σ H Q => ∃ env S ρ, Fr K N env S ρ σ H ∧ PostB K N W ρ σ H (m env S) Q
def tA_ (W : WX) (m : AM) : TA := fun σ H Q => ∃ env S ρ, Fr K N env S ρ σ H ∧ PostA K N W ρ σ H (m env S) Q
def tS (W : WX) (m : SM) : TS := fun E σ H => ∃ env S ρ, Fr K N env S ρ σ H ∧ PostO K N W ρ H (m env S) E
end
/-- the judgements -/
def GE (N : Nm) (X : Cx) (W : WX) (e : Expr) (m : EM) : Prop := PE X e (tE X.K N W m)
def GT (N : Nm) (X : Cx) (W : WX) (e : Expr) (m : TM) : Prop := PT X e (tB_ X.K N W m)
def GW (N : Nm) (X : Cx) (W : WX) (e : Expr) (m : TM) : Prop := PW X e (tB_ X.K N W m)
def GA (N : Nm) (X : Cx) (W : WX) (es : List Expr) (m : AM) : Prop := PA X es (tA_ X.K N W m)
def GS (N : Nm) (X : Cx) (W : WX) (st : Stmt) (m : SM) : Prop := PS X st (tS X.K N W m)
def GSs (N : Nm) (X : Cx) (W : WX) (st : List Stmt) (m : SM) : Prop := PSs X st (tS X.K N W m)
/-! ### weaken -/
theorem PE.imp {X : Cx} {e : Expr} {t t' : TE} (h : PE X e t) (i : ∀ σ H Q, t' σ H Q → t σ H Q) : PE X e t' := ⟨fun pins s σ H Q I q => h.run pins s σ H Q I (i _ _ _ q)⟩
theorem PT.imp {X : Cx} {e : Expr} {t t' : TT} (h : PT X e t) (i : ∀ σ H Q, t' σ H Q → t σ H Q) : PT X e t' := ⟨fun pins s σ H Q I q => h.run pins s σ H Q I (i _ _ _ q)⟩
theorem PW.imp {X : Cx} {e : Expr} {t t' : TT} (h : PW X e t) (i : ∀ σ H Q, t' σ H Q → t σ H Q) : PW X e t' := ⟨fun wh pins s σ H Q I q => h.run wh pins s σ H Q I (i _ _ _ q)⟩
theorem PA.imp {X : Cx} {e : List Expr} {t t' : TA} (h : PA X e t) (i : ∀ σ H Q, t' σ H Q → t σ H Q) : PA X e t' := ⟨fun pos pins s σ H Q I q => h.run pos pins s σ H Q I (i _ _ _ q)⟩
theorem PS.imp {X : Cx} {e : Stmt} {t t' : TS} (h : PS X e t) (i : ∀ D σ H, t' D σ H → t D σ H) : PS X e t' := ⟨fun pins s σ H D I q => h.run pins s σ H D I (i _ _ _ q)⟩
theorem PSs.imp {X : Cx} {e : List Stmt} {t t' : TS} (h : PSs X e t) (i : ∀ D σ H, t' D σ H → t D σ H) : PSs X e t' := ⟨fun pins s σ H D I q => h.run pins s σ H D I (i _ _ _ q)⟩
section
variable {K : PySem.W.Frag} {N : Nm} {W : WX} {ρ ρ' : Pl} {S S' : Store} {H H' : Hp} {σ : L2.St} {env : Env}
theorem Fr.step (f : Fr K N env S ρ σ H) (st : Step ρ H ρ' H') (r : Rel K N ρ' S' H') : Fr K N env S' ρ' σ H' :=
  ⟨r, f.len, fun i d e => let ⟨v, h1, h2⟩ := f.get i d e; ⟨v, h1, VRep.keep f.rel st h2⟩⟩
theorem PostE.step {r : R D} {Q : VK} (st : Step ρ H ρ' H') (h : PostE K N W ρ σ H r Q) : PostE K N W ρ' σ H' r Q := by
  cases r with
  | ok d S1 => exact fun ρ2 v H2 s2 => h ρ2 v H2 (st.trans s2)
  | exc c as S1 => exact fun ρ2 v H2 s2 => h ρ2 v H2 (st.trans s2)
  | stuck => exact h
theorem PostB.step {r : R Bool} {Q : Bool → Hp → Prop} (st : Step ρ H ρ' H') (h : PostB K N W ρ σ H r Q) : PostB K N W ρ' σ H' r Q := by
  cases r with
  | ok d S1 => exact fun ρ2 H2 s2 => h ρ2 H2 (st.trans s2)
  | exc c as S1 => exact fun ρ2 v H2 s2 => h ρ2 v H2 (st.trans s2)
  | stuck => exact h
theorem PostA.step {r : R (List D)} {Q : List V → Hp → Prop} (st : Step ρ H ρ' H') (h : PostA K N W ρ σ H r Q) : PostA K N W ρ' σ H' r Q := by
  cases r with
  | ok d S1 => exact fun ρ2 v H2 s2 => h ρ2 v H2 (st.trans s2)
  | exc c as S1 => exact fun ρ2 v H2 s2 => h ρ2 v H2 (st.trans s2)
  | stuck => exact h
theorem PostO.step {o : O} {E : Ends} (st : Step ρ H ρ' H') (h : PostO K N W ρ H o E) : PostO K N W ρ' H' o E := by
  cases o with
  | nx e S1 => exact fun ρ2 v H2 s2 => h ρ2 v H2 (st.trans s2)
  | bk e S1 => exact fun ρ2 v H2 s2 => h ρ2 v H2 (st.trans s2)
  | ct e S1 => exact fun ρ2 v H2 s2 => h ρ2 v H2 (st.trans s2)
  | rt d S1 => exact fun ρ2 v H2 s2 => h ρ2 v H2 (st.trans s2)
  | exc c as e S1 => exact fun ρ2 s1 v H2 s2 => h ρ2 s1 v H2 (st.trans s2)
  | stuck => exact h
/-- the first part of a chain -/
theorem PostE.bE {r : R D} {k : D → Store → R D} {Q Q' : VK} (h : PostE K N W ρ σ H (r.bnd k) Q)
    (c : ∀ d S1 ρ1 v H1, Step ρ H ρ1 H1 → Rel K N ρ1 S1 H1 → Rep K ρ1 H1 d v → PostE K N W ρ1 σ H1 (k d S1) Q → Q' v H1) : PostE K N W ρ σ H r Q' := by
  cases r with
  | ok d S1 => exact fun ρ1 v H1 st r1 rp => c d S1 ρ1 v H1 st r1 rp (PostE.step st h)
  | exc c as S1 => exact h
  | stuck => exact h
theorem PostE.bB {r : R Bool} {k : Bool → Store → R D} {Q : VK} {Q' : Bool → Hp → Prop} (h : PostE K N W ρ σ H (r.bnd k) Q)
    (c : ∀ d S1 ρ1 H1, Step ρ H ρ1 H1 → Rel K N ρ1 S1 H1 → PostE K N W ρ1 σ H1 (k d S1) Q → Q' d H1) : PostB K N W ρ σ H r Q' := by
  cases r with
  | ok d S1 => exact fun ρ1 H1 st r1 => c d S1 ρ1 H1 st r1 (PostE.step st h)
  | exc c as S1 => exact h
  | stuck => exact h
theorem PostE.bA {r : R (List D)} {k : List D → Store → R D} {Q : VK} {Q' : List V → Hp → Prop} (h : PostE K N W ρ σ H (r.bnd k) Q)
    (c : ∀ d S1 ρ1 v H1, Step ρ H ρ1 H1 → Rel K N ρ1 S1 H1 → RepL K ρ1 H1 d v → PostE K N W ρ1 σ H1 (k d S1) Q → Q' v H1) : PostA K N W ρ σ H r Q' := by
  cases r with
  | ok d S1 => exact fun ρ1 v H1 st r1 rp => c d S1 ρ1 v H1 st r1 rp (PostE.step st h)
  | exc c as S1 => exact h
  | stuck => exact h
theorem PostB.bE {r : R D} {k : D → Store → R Bool} {Q : Bool → Hp → Prop} {Q' : VK} (h : PostB K N W ρ σ H (r.bnd k) Q)
    (c : ∀ d S1 ρ1 v H1, Step ρ H ρ1 H1 → Rel K N ρ1 S1 H1 → Rep K ρ1 H1 d v → PostB K N W ρ1 σ H1 (k d S1) Q → Q' v H1) : PostE K N W ρ σ H r Q' := by
  cases r with
  | ok d S1 => exact fun ρ1 v H1 st r1 rp => c d S1 ρ1 v H1 st r1 rp (PostB.step st h)
  | exc c as S1 => exact h
  | stuck => exact h
theorem PostB.bB {r : R Bool} {k : Bool → Store → R Bool} {Q Q' : Bool → Hp → Prop} (h : PostB K N W ρ σ H (r.bnd k) Q)
    (c : ∀ d S1 ρ1 H1, Step ρ H ρ1 H1 → Rel K N ρ1 S1 H1 → PostB K N W ρ1 σ H1 (k d S1) Q → Q' d H1) : PostB K N W ρ σ H r Q' := by
  cases r with
  | ok d S1 => exact fun ρ1 H1 st r1 => c d S1 ρ1 H1 st r1 (PostB.step st h)
  | exc c as S1 => exact h
  | stuck => exact h
theorem PostA.bE {r : R D} {k : D → Store → R (List D)} {Q : List V → Hp → Prop} {Q' : VK} (h : PostA K N W ρ σ H (r.bnd k) Q)
    (c : ∀ d S1 ρ1 v H1, Step ρ H ρ1 H1 → Rel K N ρ1 S1 H1 → Rep K ρ1 H1 d v → PostA K N W ρ1 σ H1 (k d S1) Q → Q' v H1) : PostE K N W ρ σ H r Q' := by
  cases r with
  | ok d S1 => exact fun ρ1 v H1 st r1 rp => c d S1 ρ1 v H1 st r1 rp (PostA.step st h)
  | exc c as S1 => exact h
  | stuck => exact h
theorem PostA.bA {r : R (List D)} {k : List D → Store → R (List D)} {Q Q' : List V → Hp → Prop} (h : PostA K N W ρ σ H (r.bnd k) Q)
    (c : ∀ d S1 ρ1 v H1, Step ρ H ρ1 H1 → Rel K N ρ1 S1 H1 → RepL K ρ1 H1 d v → PostA K N W ρ1 σ H1 (k d S1) Q → Q' v H1) : PostA K N W ρ σ H r Q' := by
  cases r with
  | ok d S1 => exact fun ρ1 v H1 st r1 rp => c d S1 ρ1 v H1 st r1 rp (PostA.step st h)
  | exc c as S1 => exact h
  | stuck => exact h
theorem PostE.ok {d : D} {v : V} {Q : VK} (h : PostE K N W ρ σ H (.ok d S) Q) (r : Rel K N ρ S H) (q : Rep K ρ H d v) : Q v H := h ρ v H (Step.refl _ _) r q
theorem PostB.ok {b : Bool} {Q : Bool → Hp → Prop} (h : PostB K N W ρ σ H (.ok b S) Q) (r : Rel K N ρ S H) : Q b H := h ρ H (Step.refl _ _) r
theorem PostA.ok {d : List D} {v : List V} {Q : List V → Hp → Prop} (h : PostA K N W ρ σ H (.ok d S) Q) (r : Rel K N ρ S H) (q : RepL K ρ H d v) : Q v H := h ρ v H (Step.refl _ _) r q
theorem PostO.nx {e : Env} {E : Ends} (h : PostO K N W ρ H (.nx e S) E) (f : Fr K N e S ρ σ H) : E.nx σ H := h ρ σ H (Step.refl _ _) f
theorem PostE.ofO {o : Option D} {Q : VK} (h : PostE K N W ρ σ H (ofO o S) Q) : ∃ d, o = some d ∧ PostE K N W ρ σ H (.ok d S) Q := by
  cases o with
  | none => exact h.elim
  | some d => exact ⟨d, rfl, h⟩
end
/-! ### values by values -/
/-- an operator's meaning -/
def OpG (N : Nm) (X : Cx) (r : R2) (f : Store → D → D → Option D) : Prop := ∀ (S : Store) (ρ : Pl) (H : Hp) (x y d : D) (u v : V) (Q : VK), Rel X.K N ρ S H → Rep X.K ρ H x u → Rep X.K ρ H y v → f S x y = some d →
  (∀ (ρ' : Pl) (z : V) (H' : Hp), Step ρ H ρ' H' → Rel X.K N ρ' S H' → Rep X.K ρ' H' d z → Q z H') → r u v H Q
def UnG (N : Nm) (X : Cx) (r : V → Hp → VK → Prop) (f : Store → D → Option D) : Prop := ∀ (S : Store) (ρ : Pl) (H : Hp) (x d : D) (u : V) (Q : VK), Rel X.K N ρ S H → Rep X.K ρ H x u → f S x = some d →
  (∀ (ρ' : Pl) (z : V) (H' : Hp), Step ρ H ρ' H' → Rel X.K N ρ' S H' → Rep X.K ρ' H' d z → Q z H') → r u H Q
section
variable {N : Nm} {X : Cx} {W : WX} {a b c : Expr} {ma mb mc : EM} {pos : Pos}
theorem two {f : Store → D → D → Option D} {r : R2} (hg : OpG N X r f) {σ : L2.St} {H : Hp} {Q : VK} (h : tE X.K N W (eBin f ma mb) σ H Q) : tOp r (tE X.K N W ma) (tE X.K N W mb) σ H Q := by
  obtain ⟨env, S, ρ, fr, h⟩ := h
  refine ⟨env, S, ρ, fr, h.bE fun x S1 ρ1 u H1 st1 r1 p1 h1 => ?_⟩
  refine ⟨env, S1, ρ1, fr.step st1 r1, h1.bE fun y S2 ρ2 v H2 st2 r2 p2 h2 => ?_⟩
  obtain ⟨d, e, h3⟩ := h2.ofO
  exact hg S2 ρ2 H2 x y d u v Q r2 (Rep.keep r1 st2 _ _ p1) p2 e fun ρ' z H' st r p => h3 ρ' z H' st r p
theorem g_bin {op : Operator} {r : R2} {f : Store → D → D → Option D} (ho : OpR X (binaryOp op) r) (hg : OpG N X r f) (ha : GE N X W a ma) (hb : GE N X W b mb) : GE N X W (.BinOp a op b pos) (eBin f ma mb) :=
  PE.imp (pe_op ho ha hb) fun _ _ _ h => two hg h
theorem g_cmp {op : CmpOp} {r : R2} {f : Store → D → D → Option D} (ho : OpR X (compareOp op) r) (hg : OpG N X r f) (hm : behindInMarks op b = false) (ha : GE N X W a ma) (hb : GE N X W b mb) : GE N X W (.Compare a [op] [b] pos) (eBin f ma mb) :=
  PE.imp (pe_cmpR ho ha hb hm) fun _ _ _ h => two hg h
theorem g_un {op : UnaryOp} {r : V → Hp → VK → Prop} {f : Store → D → Option D} (ho : UnR X (unaryOp op) r) (hg : UnG N X r f) (ha : GE N X W a ma) : GE N X W (.UnaryOp op a pos) (eUn f ma) :=
  PE.imp (pe_un ho ha) fun σ H Q ⟨env, S, ρ, fr, h⟩ => ⟨env, S, ρ, fr, h.bE fun x S1 ρ1 u H1 st1 r1 p1 h1 => by
    obtain ⟨d, e, h3⟩ := h1.ofO
    exact hg S1 ρ1 H1 x d u Q r1 p1 e fun ρ' z H' st r p => h3 ρ' z H' st r p⟩
/-! ### names, constants -/
theorem g_var (i : Nat) {x : Str} {pos : Pos} (hN : X.N[i]? = some x := by rfl) (hv : Vis X.env.scope x := by first | exact Or.inl rfl | exact Or.inr (Or.inl rfl) | exact Or.inr (Or.inr rfl)) (hd : (x == ("__debug__" : Str)) = false := by decide)
    (hcd : (x == ("__classdict__" : Str)) = false := by decide) : GE N X W (.Name x pos) (eVar i) :=
  PE.imp (pe_var hN hv hd hcd) fun σ H Q ⟨env, S, ρ, fr, h⟩ => by
    unfold eVar at h
    cases e : env[i]? with
    | none => rw [e] at h; exact h.elim
    | some o => cases o with
      | none => rw [e] at h; exact h.elim
      | some d =>
        rw [e] at h
        obtain ⟨v, h1, h2⟩ := fr.get i d e
        have n : d ≠ .err := fun z => by subst z; exact h.elim
        have h' : PostE X.K N W ρ σ H (.ok d S) Q := by cases d <;> first | exact h | exact absurd rfl n
        exact ⟨v, h1, h'.ok fr.rel (h2.rep n)⟩
theorem g_const {e : Expr} {d : D} {v : V} (h : PE X e (tC v)) (hr : ∀ ρ H, Rep X.K ρ H d v) : GE N X W e (eC d) :=
  PE.imp h fun σ H Q ⟨env, S, ρ, fr, h⟩ => h.ok fr.rel (hr ρ H)
theorem g_int {i : Int} {j pos} : GE N X W (.Constant (.int i) j pos) (eC (.int i)) := g_const pe_int fun _ _ => rfl
theorem g_bl {b : Bool} {j pos} : GE N X W (.Constant (.bool b) j pos) (eC (.bl b)) := g_const pe_bl fun _ _ => rfl
theorem g_non {j pos} : GE N X W (.Constant .none j pos) (eC .non) := g_const pe_non fun _ _ => rfl
theorem g_str {x : Str} {cs : List Nat} {j pos} (h : x = ⟨cs.toArray⟩) : GE N X W (.Constant (.str x) j pos) (eC (.str cs)) := by
  subst h
  exact g_const pe_str fun _ _ => rfl
theorem g_gint {x : Str} {i : Int} {pos : Pos} (hm : ∃ t, X.mg x = some (.int i t)) (hg : Gl X x := by rfl) (hd : (x == ("__debug__" : Str)) = false := by decide) : GE N X W (.Name x pos) (eC (.int i)) := by
  obtain ⟨t, hm⟩ := hm
  exact g_const (v := .int i) (pe_glob hg hm ⟨t, rfl⟩ hd) fun _ _ => rfl
theorem g_gstr {x z : Str} {cs : List Nat} {pos : Pos} (hm : ∃ t, X.mg x = some (.str z t)) (hz : z = ⟨cs.toArray⟩) (hg : Gl X x := by rfl) (hd : (x == ("__debug__" : Str)) = false := by decide) : GE N X W (.Name x pos) (eC (.str cs)) := by
  obtain ⟨t, hm⟩ := hm
  subst hz
  exact g_const (v := .str ⟨cs.toArray⟩) (pe_glob hg hm ⟨t, rfl⟩ hd) fun _ _ => rfl
/-! ### tests -/
theorem gt_val (h : GE N X W a ma) (he : ∀ whole, isTrue a X.env whole = (do let v ← whole; standAt a.pos; holding [v] (truthy v)) := by intro _; rfl) : GT N X W a (tV ma) :=
  PT.imp (pt_val h he) fun σ H Q ⟨env, S, ρ, fr, h⟩ => ⟨env, S, ρ, fr, h.bE fun x S1 ρ1 u H1 st1 r1 p1 h1 => by
    cases x with
    | bl k => exact ⟨k, p1, h1.ok r1⟩
    | _ => exact h1.elim⟩
variable {ta tb : TM} {rest : List Expr}
theorem gt_not (h : GT N X W a ta) : GT N X W (.UnaryOp .Not a pos) (tNot ta) :=
  PT.imp (pt_not h) fun σ H Q ⟨env, S, ρ, fr, h⟩ => ⟨env, S, ρ, fr, h.bB fun k S1 ρ1 H1 st1 r1 h1 => h1.ok r1⟩
theorem gw_and1 (h : GT N X W a ta) : GW N X W (.BoolOp .And [a] pos) ta := pw_and1 h
theorem gw_or1 (h : GT N X W a ta) : GW N X W (.BoolOp .Or [a] pos) ta := pw_or1 h
theorem gw_and (ha : GT N X W a ta) (hb : GW N X W (.BoolOp .And (b :: rest) pos) tb) : GW N X W (.BoolOp .And (a :: b :: rest) pos) (G.tAnd ta tb) :=
  PW.imp (pw_and ha hb) fun σ H Q ⟨env, S, ρ, fr, h⟩ => ⟨env, S, ρ, fr, h.bB fun k S1 ρ1 H1 st1 r1 h1 => by
    cases k with
    | true => rw [if_pos rfl]; exact ⟨env, S1, ρ1, fr.step st1 r1, h1⟩
    | false => rw [if_neg Bool.false_ne_true]; exact h1.ok r1⟩
theorem gw_or (ha : GT N X W a ta) (hb : GW N X W (.BoolOp .Or (b :: rest) pos) tb) : GW N X W (.BoolOp .Or (a :: b :: rest) pos) (G.tOr ta tb) :=
  PW.imp (pw_or ha hb) fun σ H Q ⟨env, S, ρ, fr, h⟩ => ⟨env, S, ρ, fr, h.bB fun k S1 ρ1 H1 st1 r1 h1 => by
    cases k with
    | true => rw [if_pos rfl]; exact h1.ok r1
    | false => rw [if_neg Bool.false_ne_true]; exact ⟨env, S1, ρ1, fr.step st1 r1, h1⟩⟩
theorem gt_w (h : GW N X W a ta) : GT N X W a ta := PW.pt h
/-! ### and, or, not as values -/
/-- and, or as values (flags) -/
def eAndV (a b : EM) : EM := fun env S => (a env S).bnd fun x S1 => match x with
  | .bl true => b env S1
  | .bl false => .ok (.bl false) S1
  | _ => .stuck
def eOrV (a b : EM) : EM := fun env S => (a env S).bnd fun x S1 => match x with
  | .bl false => b env S1
  | .bl true => .ok (.bl true) S1
  | _ => .stuck
def uNot (_ : Store) : D → Option D
  | .bl b => some (.bl (!b))
  | _ => none
theorem g_one {op} (h : GE N X W a ma) : GE N X W (.BoolOp op [a] pos) ma := pe_one h
theorem g_and (ha : GE N X W a ma) (hb : GE N X W (.BoolOp .And (b :: rest) pos) mb) : GE N X W (.BoolOp .And (a :: b :: rest) pos) (eAndV ma mb) :=
  PE.imp (pe_and ha hb) fun σ H Q ⟨env, S, ρ, fr, h⟩ => ⟨env, S, ρ, fr, h.bE fun x S1 ρ1 u H1 st1 r1 p1 h1 => by
    cases x with
    | bl k => cases k with
      | true => exact ⟨true, p1, by rw [if_pos rfl]; exact ⟨env, S1, ρ1, fr.step st1 r1, h1⟩⟩
      | false => exact ⟨false, p1, by rw [if_neg Bool.false_ne_true]; exact h1.ok r1 rfl⟩
    | _ => exact h1.elim⟩
theorem g_or (ha : GE N X W a ma) (hb : GE N X W (.BoolOp .Or (b :: rest) pos) mb) : GE N X W (.BoolOp .Or (a :: b :: rest) pos) (eOrV ma mb) :=
  PE.imp (pe_or ha hb) fun σ H Q ⟨env, S, ρ, fr, h⟩ => ⟨env, S, ρ, fr, h.bE fun x S1 ρ1 u H1 st1 r1 p1 h1 => by
    cases x with
    | bl k => cases k with
      | true => exact ⟨true, p1, by rw [if_pos rfl]; exact h1.ok r1 rfl⟩
      | false => exact ⟨false, p1, by rw [if_neg Bool.false_ne_true]; exact ⟨env, S1, ρ1, fr.step st1 r1, h1⟩⟩
    | _ => exact h1.elim⟩
theorem g_not (ha : GE N X W a ma) : GE N X W (.UnaryOp .Not a pos) (eUn uNot ma) :=
  PE.imp (pe_not ha) fun σ H Q ⟨env, S, ρ, fr, h⟩ => ⟨env, S, ρ, fr, h.bE fun x S1 ρ1 u H1 st1 r1 p1 h1 => by
    cases x with
    | bl k => exact ⟨k, p1, PostE.ok h1 r1 rfl⟩
    | _ => exact h1.elim⟩
theorem g_if (ht : GT N X W c ta) (ha : GE N X W a ma) (hb : GE N X W b mb) : GE N X W (.IfExp c a b pos) (eIf ta ma mb) :=
  PE.imp (pe_ifExp ht ha hb) fun σ H Q ⟨env, S, ρ, fr, h⟩ => ⟨env, S, ρ, fr, h.bB fun k S1 ρ1 H1 st1 r1 h1 => by
    cases k with
    | true => rw [if_pos rfl]; exact ⟨env, S1, ρ1, fr.step st1 r1, h1⟩
    | false => rw [if_neg Bool.false_ne_true]; exact ⟨env, S1, ρ1, fr.step st1 r1, h1⟩⟩
/-! ### lists of expressions, displays -/
variable {es : List Expr} {me : AM}
theorem ga_nil : GA N X W [] aNil := PA.imp pa_nil fun σ H Q ⟨env, S, ρ, fr, h⟩ => PostA.ok h fr.rel rfl
theorem ga_cons (ha : GE N X W a ma) (hr : GA N X W es me) (hs : starEach (a :: es) X.env = (false, eval a X.env) :: starEach es X.env := by rfl) : GA N X W (a :: es) (aCons ma me) :=
  PA.imp (pa_cons ha hr hs) fun σ H Q ⟨env, S, ρ, fr, h⟩ => ⟨env, S, ρ, fr, h.bE fun x S1 ρ1 u H1 st1 r1 p1 h1 =>
    ⟨env, S1, ρ1, fr.step st1 r1, h1.bA fun xs S2 ρ2 us H2 st2 r2 p2 h2 => PostA.ok h2 r2 ⟨u, us, rfl, Rep.keep r1 st2 _ _ p1, p2⟩⟩⟩
theorem RepL.length {K : PySem.W.Frag} {ρ : Pl} {H : Hp} : ∀ {ds : List D} {vs : List V}, RepL K ρ H ds vs → vs.length = ds.length
  | [], vs, h => by rw [show vs = [] from h]; rfl
  | d :: ds, vs, h => by
    obtain ⟨v, r, rfl, _, q⟩ := h
    show r.length + 1 = ds.length + 1
    rw [RepL.length q]
def eTupZ (a : AM) : EM := fun env S => (a env S).bnd fun xs S1 => if xs.length ≤ 1000 then .ok (.tup xs) S1 else .stuck
theorem tup_new {K : PySem.W.Frag} {ρ : Pl} {S : Store} {H : Hp} {ds : List D} {vs : List V} {p : Addr} (r : Rel K N ρ S H) (h : RepL K ρ H ds vs) (hp : H p = none) : Step ρ H ρ (upd H p (.tup vs)) ∧ Rel K N ρ S (upd H p (.tup vs)) ∧ Rep K ρ (upd H p (.tup vs)) (.tup ds) (.ref p) :=
  ⟨Step.fresh hp, r.fresh hp, p, vs, rfl, ⟨SqT.of upd_same, fun _ => upd_same⟩, RepL.keep r (Step.fresh hp) _ _ h⟩
theorem lst_new {K : PySem.W.Frag} {ρ : Pl} {S : Store} {H : Hp} {ds : List D} {vs : List V} {p : Addr} (r : Rel K N ρ S H) (h : RepL K ρ H ds vs) (hp : H p = none) : Step ρ H ρ (upd H p (.lst vs)) ∧ Rel K N ρ S (upd H p (.lst vs)) ∧ Rep K ρ (upd H p (.lst vs)) (.lst ds) (.ref p) :=
  ⟨Step.fresh hp, r.fresh hp, p, vs, rfl, ⟨fun z => r.not_none z hp, fun z => (r.hh p z).1.ne hp⟩, upd_same, RepL.keep r (Step.fresh hp) _ _ h⟩
theorem g_tup {x1} (h : GA N X W es me) : GE N X W (.Tuple es x1 pos) (eTupZ me) :=
  PE.imp (pe_tup h) fun σ H Q ⟨env, S, ρ, fr, h⟩ => ⟨env, S, ρ, fr, h.bA fun xs S1 ρ1 us H1 st1 r1 p1 h1 => by
    by_cases hl : xs.length ≤ 1000
    · rw [if_pos hl] at h1
      refine ⟨by rw [RepL.length p1]; exact Nat.le_trans hl (by decide), fun p hp => ?_⟩
      obtain ⟨a1, a2, a3⟩ := tup_new r1 p1 hp
      exact h1 _ _ _ a1 a2 a3
    · rw [if_neg hl] at h1; exact h1.elim⟩
/-- a list display: a value | an object of the store -/
def eLstZ (a : AM) : EM := fun env S => (a env S).bnd fun xs S1 => if xs.length ≤ 1000 then .ok (.lst xs) S1 else .stuck
def eLstN (a : AM) : EM := fun env S => (a env S).bnd fun xs S1 => if xs.length ≤ 1000 then .ok (.ref S1.length) (S1 ++ [.lst xs]) else .stuck
theorem g_lst (h : GA N X W es me) : GE N X W (.List es pos) (eLstZ me) :=
  PE.imp (pe_lst h) fun σ H Q ⟨env, S, ρ, fr, h⟩ => ⟨env, S, ρ, fr, h.bA fun xs S1 ρ1 us H1 st1 r1 p1 h1 => by
    by_cases hl : xs.length ≤ 1000
    · rw [if_pos hl] at h1
      refine ⟨by rw [RepL.length p1]; exact Nat.le_trans hl (by decide), fun p hp => ?_⟩
      obtain ⟨a1, a2, a3⟩ := lst_new r1 p1 hp
      exact h1 _ _ _ a1 a2 a3
    · rw [if_neg hl] at h1; exact h1.elim⟩
theorem lst_push {K : PySem.W.Frag} {ρ : Pl} {S : Store} {H : Hp} {ds : List D} {vs : List V} {p : Addr} (r : Rel K N ρ S H) (h : RepL K ρ H ds vs) (hp : H p = none) :
    Step ρ H (ρ.push p) (upd H p (.lst vs)) ∧ Rel K N (ρ.push p) (S ++ [.lst ds]) (upd H p (.lst vs)) ∧ Rep K (ρ.push p) (upd H p (.lst vs)) (.ref S.length) (.ref p) :=
  ⟨Step.push hp, r.push (so := .lst ds) hp ⟨vs, upd_same, RepL.keep r (Step.push hp) _ _ h⟩, p, rfl, by
    show (ρ.v ++ [p])[S.length]? = some p
    rw [← r.len]; simp⟩
theorem g_lstN (h : GA N X W es me) : GE N X W (.List es pos) (eLstN me) :=
  PE.imp (pe_lst h) fun σ H Q ⟨env, S, ρ, fr, h⟩ => ⟨env, S, ρ, fr, h.bA fun xs S1 ρ1 us H1 st1 r1 p1 h1 => by
    by_cases hl : xs.length ≤ 1000
    · rw [if_pos hl] at h1
      refine ⟨by rw [RepL.length p1]; exact Nat.le_trans hl (by decide), fun p hp => ?_⟩
      obtain ⟨a1, a2, a3⟩ := lst_push r1 p1 hp
      exact h1 _ _ _ a1 a2 a3
    · rw [if_neg hl] at h1; exact h1.elim⟩
end
end G
end

section
set_option Elab.async false
set_option linter.all false
set_option maxRecDepth 100000
set_option maxHeartbeats 4000000
/-! G3: defs and calls, statements, loops, comprehensions. By an AI agent. -/
namespace G
open PySem PySem.Spec PyProof.Rows L2
variable [Cold]
/-! ### defs -/
def spG (K : PySem.W.Frag) (N : Nm) (m : Nat) (fm : FM) : Sp := fun vs H Q E => ∃ ds S ρ, Rel K N ρ S H ∧ RepL K ρ H ds vs ∧ ds.length = m ∧ PostE K N (fun c oe _ H' => E c oe H') ρ [] H (fm ds S) Q
/-- a def of the text does what fm says -/
def GF (P : Program) (w : World) (K : PySem.W.Frag) (mg : Str → Option Value) (base : Heap) (N : Nm) (k : Nat) (f : Addr) (fd : FuncData) (ps : List Str) (fm : FM) : Prop :=
  FnOk P w K mg base (L2.CX P w) k f fd ps (spG K N ps.length fm)
theorem GF.mono {P : Program} {w : World} {K : PySem.W.Frag} {mg : Str → Option Value} {base : Heap} {N : Nm} {j k : Nat} {f : Addr} {fd : FuncData} {ps : List Str} {fm : FM} (F : GF P w K mg base N j f fd ps fm) (h : j ≤ k) : GF P w K mg base N k f fd ps fm := FnOk.mono F h
section
variable {N : Nm} {X : Cx} {W : WX} {k : Nat} {f C : Addr} {fd : FuncData} {ps : List Str} {fm : FM} {x m : Str} {p pos apos : Pos} {e o : Expr} {es : List Expr} {me : AM} {mo : EM}
theorem PostE.call {K : PySem.W.Frag} {ρ : Pl} {σ : L2.St} {H : Hp} {r : R D} {Q : VK} (h : PostE K N W ρ σ H r Q) : PostE K N (fun c oe _ H' => W c oe σ H') ρ [] H r Q := by
  cases r with
  | ok d S => exact h
  | exc c as S => exact h
  | stuck => exact h
theorem g_call (F : GF X.prog X.w X.K X.mg X.base N k f fd ps fm) (tk : Takes X W) (hr : Room k X.A) (hm : X.mg x = some (.ref f)) (hk : PySem.W.keepIn X.K (.ref f) = true) (hb : Binds X.K fd ps []) (hl : (e :: es).length = ps.length)
    (ha : GA N X W (e :: es) me) (hn : ∀ env S ds S', me env S = .ok ds S' → ds.length = (e :: es).length) (hg : Gl X x := by rfl) (hdb : (x == ("__debug__" : Str)) = false := by decide) (he : starEach (e :: es) X.env = (false, eval e X.env) :: starEach es X.env := by rfl) (hpl : (backTo pos (starEach es X.env)).any (·.1) = false := by rfl) :
    GE N X W (.Call (.Name x p) (e :: es) [] pos) (eCall fm me) :=
  PE.imp (pe_callS F hr hg hm hk hb (passAt tk) ha hdb he hpl) fun σ H Q ⟨env, S, ρ, fr, h⟩ => ⟨env, S, ρ, fr, by
    have hn' := hn env S
    unfold eCall at h
    cases hme : me env S with
    | ok ds S1 =>
      rw [hme] at h
      exact fun ρ1 us H1 st1 r1 p1 => ⟨ds, S1, ρ1, r1, p1, (hn' _ _ hme).trans hl, (PostE.step st1 h).call⟩
    | exc c as S1 => rw [hme] at h; exact h
    | stuck => rw [hme] at h; exact h⟩
theorem g_call0 (F : GF X.prog X.w X.K X.mg X.base N k f fd [] fm) (tk : Takes X W) (hr : Room k X.A) (hm : X.mg x = some (.ref f)) (hk : PySem.W.keepIn X.K (.ref f) = true) (hb : Binds X.K fd [] [])
    (hg : Gl X x := by rfl) (hdb : (x == ("__debug__" : Str)) = false := by decide) : GE N X W (.Call (.Name x p) [] [] pos) (eCall fm aNil) := by
  refine ⟨fun pins s σ H Q I h => ?_⟩
  obtain ⟨env, S, ρ, fr, h⟩ := h
  refine wpAny_Call_Name_kw (ld_glob I hg hm ?_ hdb)
  exact PySem.W.callWith_K0 I.kIn hk (run_fnS (us := []) (vs := []) (E := WE W) F hr hb (passAt tk σ) I .nil ⟨[], S, ρ, fr.rel, rfl, rfl, PostE.call h⟩)
/-- how many come of a list of expressions -/
theorem an_nil : ∀ env S ds S', aNil env S = .ok ds S' → ds.length = ([] : List Expr).length := fun env S ds S' h => by
  unfold aNil at h; cases h; rfl
theorem an_cons {a : EM} {r : AM} (h : ∀ env S ds S', r env S = .ok ds S' → ds.length = es.length) : ∀ env S ds S', aCons a r env S = .ok ds S' → ds.length = (e :: es).length := fun env S ds S' q => by
  unfold aCons at q
  cases ha : a env S with
  | ok x S1 =>
    rw [ha] at q
    have q' : (r env S1).bnd (fun xs S2 => R.ok (x :: xs) S2) = R.ok ds S' := q
    cases hr : r env S1 with
    | ok xs S2 =>
      rw [hr] at q'
      have q2 : R.ok (x :: xs) S2 = R.ok ds S' := q'
      cases q2
      show xs.length + 1 = es.length + 1
      rw [h _ _ _ _ hr]
    | exc c as S1 => rw [hr] at q'; cases q'
    | stuck => rw [hr] at q'; cases q'
  | exc c as S1 => rw [ha] at q; cases q
  | stuck => rw [ha] at q; cases q
end
/-! ### statements -/
section
variable {K : PySem.W.Frag} {N : Nm} {W : WX} {ρ ρ' : Pl} {S S' : Store} {H H' : Hp} {σ : L2.St} {env : Env}
theorem PostO.E {r : R D} {k : D → Store → O} {E : Ends} {Q' : VK} (f : Fr K N env S ρ σ H) (h : PostO K N W ρ H (r.st env k) E)
    (c : ∀ d S1 ρ1 v H1, Step ρ H ρ1 H1 → Rel K N ρ1 S1 H1 → Rep K ρ1 H1 d v → PostO K N W ρ1 H1 (k d S1) E → Q' v H1) : PostE K N W ρ σ H r Q' := by
  cases r with
  | ok d S1 => exact fun ρ1 v H1 st r1 rp => c d S1 ρ1 v H1 st r1 rp (PostO.step st h)
  | exc cc as S1 => exact fun ρ1 oe H1 st r1 x => h ρ1 σ oe H1 st (f.step st r1) x
  | stuck => exact h
theorem PostO.B {r : R Bool} {k : Bool → Store → O} {E : Ends} {Q' : Bool → Hp → Prop} (f : Fr K N env S ρ σ H) (h : PostO K N W ρ H (r.sb env k) E)
    (c : ∀ d S1 ρ1 H1, Step ρ H ρ1 H1 → Rel K N ρ1 S1 H1 → PostO K N W ρ1 H1 (k d S1) E → Q' d H1) : PostB K N W ρ σ H r Q' := by
  cases r with
  | ok d S1 => exact fun ρ1 H1 st r1 => c d S1 ρ1 H1 st r1 (PostO.step st h)
  | exc cc as S1 => exact fun ρ1 oe H1 st r1 x => h ρ1 σ oe H1 st (f.step st r1) x
  | stuck => exact h
theorem PostO.nextE {e : Env} {E : Ends} (f : Fr K N e S ρ σ H) (h : PostO K N W ρ H (.nx e S) E) : E.nx σ H := h ρ σ H (Step.refl _ _) f
theorem PostO.ret {d : D} {v : V} {E : Ends} (h : PostO K N W ρ H (.rt d S) E) (r : Rel K N ρ S H) (q : Rep K ρ H d v) : E.rt v H := h ρ v H (Step.refl _ _) r q
end
section
variable {N : Nm} {X : Cx} {W : WX} {st : Stmt} {rest : List Stmt} {ms mr : SM} {e : Expr} {me : EM} {pos : Pos}
theorem gss_nil : GSs N X W [] sNil := PSs.imp pss_nil fun E σ H ⟨env, S, ρ, fr, h⟩ => PostO.nextE fr h
theorem seqO {K : PySem.W.Frag} {ρ : Pl} {H : Hp} {S : Store} {env : Env} {E : Ends} {a b : SM} (h : PostO K N W ρ H (sSeq a b env S) E) : PostO K N W ρ H (a env S) { E with nx := tS K N W b E } := by
  unfold sSeq at h
  cases q : a env S with
  | nx e1 S1 => rw [q] at h; exact fun ρ1 σ1 H1 st f => ⟨e1, S1, ρ1, f, PostO.step st h⟩
  | bk e1 S1 => rw [q] at h; exact h
  | ct e1 S1 => rw [q] at h; exact h
  | rt d S1 => rw [q] at h; exact h
  | exc c as e1 S1 => rw [q] at h; exact h
  | stuck => rw [q] at h; exact h
theorem gss_cons (h1 : GS N X W st ms) (h2 : GSs N X W rest mr) : GSs N X W (st :: rest) (sSeq ms mr) :=
  PSs.imp (pss_cons h1 h2) fun E σ H ⟨env, S, ρ, fr, h⟩ => ⟨env, S, ρ, fr, seqO h⟩
theorem gss_one (h1 : GS N X W st ms) : GSs N X W [st] ms := pss_one h1
theorem gs_ret (h : GE N X W e me) : GS N X W (.Return (some e) pos) (sRet me) :=
  PS.imp (ps_ret h) fun E σ H ⟨env, S, ρ, fr, h⟩ => ⟨env, S, ρ, fr, PostO.E fr h fun d S1 ρ1 v H1 st r1 p1 h1 => PostO.ret h1 r1 p1⟩
theorem gs_retN : GS N X W (.Return none pos) sRetN := PS.imp ps_retN fun E σ H ⟨env, S, ρ, fr, h⟩ => PostO.ret (d := .non) h fr.rel rfl
theorem gs_expr (h : GE N X W e me) (hs : swapsWith e none pos.line X.env = pure false := by rfl) : GS N X W (.Expr e pos) (sExpr me) :=
  PS.imp (ps_expr h hs) fun E σ H ⟨env, S, ρ, fr, h⟩ => ⟨env, S, ρ, fr, PostO.E fr h fun d S1 ρ1 v H1 st r1 p1 h1 => PostO.nextE (fr.step st r1) h1⟩
theorem gs_pass : GS N X W (.Pass pos) sNil := PS.imp ps_pass fun E σ H ⟨env, S, ρ, fr, h⟩ => PostO.nextE fr h
theorem gs_break : GS N X W (.Break pos) sBrk := PS.imp ps_break fun E σ H ⟨env, S, ρ, fr, h⟩ => h ρ σ H (Step.refl _ _) fr
theorem gs_continue : GS N X W (.Continue pos) sCont := PS.imp ps_continue fun E σ H ⟨env, S, ρ, fr, h⟩ => h ρ σ H (Step.refl _ _) fr
theorem gs_if {c : Expr} {a b : List Stmt} {tc : TM} {ma mb : SM} (hc : GT N X W c tc) (ha : GSs N X W a ma) (hb : GSs N X W b mb) : GS N X W (.If c a b pos) (sIf tc ma mb) :=
  PS.imp (ps_if hc ha hb) fun E σ H ⟨env, S, ρ, fr, h⟩ => ⟨env, S, ρ, fr, PostO.B fr h fun k S1 ρ1 H1 st r1 h1 => by
    cases k with
    | true => rw [if_pos rfl]; exact ⟨env, S1, ρ1, fr.step st r1, h1⟩
    | false => rw [if_neg Bool.false_ne_true]; exact ⟨env, S1, ρ1, fr.step st r1, h1⟩⟩
/-! ### targets -/
mutual
def Pat.slots : Pat → List Nat
  | .nm i => [i]
  | .tp ps => slotsL ps
def slotsL : List Pat → List Nat
  | [] => []
  | p :: ps => Pat.slots p ++ slotsL ps
end
def Wip (sl : List Nat) (σ σ' : L2.St) : Prop := ∀ vs : List Nat, (∀ i ∈ sl, i ∈ vs) → wipe σ' vs = wipe σ vs
def tP (K : PySem.W.Frag) (N : Nm) (p : Pat) : TG := fun v σ H Q => ∃ d env S ρ e1, Fr K N env S ρ σ H ∧ Rep K ρ H d v ∧ bindP p d env = some e1 ∧ ∀ σ', Fr K N e1 S ρ σ' H → Wip p.slots σ σ' → Q σ' H
def tPs (K : PySem.W.Frag) (N : Nm) (ps : List Pat) : TGs := fun vs σ H Q => ∃ ds env S ρ e1, Fr K N env S ρ σ H ∧ RepL K ρ H ds vs ∧ bindPs ps ds env = some e1 ∧ ∀ σ', Fr K N e1 S ρ σ' H → Wip (slotsL ps) σ σ' → Q σ' H
def GP (N : Nm) (X : Cx) (tg : Expr) (p : Pat) : Prop := PG X tg (tP X.K N p)
def GPs (N : Nm) (X : Cx) (tgs : List Expr) (ps : List Pat) : Prop := PGs X tgs (tPs X.K N ps)
theorem PG.imp {tg : Expr} {t t' : TG} (h : PG X tg t) (i : ∀ v σ H Q, t' v σ H Q → t v σ H Q) : PG X tg t' := ⟨fun pins s σ H v u Q I r q => h.run pins s σ H v u Q I r (i _ _ _ _ q)⟩
theorem PGs.imp {tg : List Expr} {t t' : TGs} (h : PGs X tg t) (i : ∀ v σ H Q, t' v σ H Q → t v σ H Q) : PGs X tg t' := ⟨fun pins s σ H v u Q I r q => h.run pins s σ H v u Q I r (i _ _ _ _ q)⟩
theorem wipe_get {σ : L2.St} {j : Nat} : ∀ {vs : List Nat}, (wipe σ vs)[j]? = if j ∈ vs then (σ[j]?).map (fun _ => none) else σ[j]?
  | [] => by simp [wipe]
  | v :: vs => by
    show ((wipe σ vs).set v none)[j]? = _
    by_cases e : v = j
    · subst e
      rw [if_pos List.mem_cons_self]
      by_cases hl : v < σ.length
      · rw [List.getElem?_set_self (by rw [wipe_length]; exact hl), List.getElem?_eq_getElem hl]; rfl
      · rw [List.getElem?_eq_none (by rw [List.length_set, wipe_length]; omega), List.getElem?_eq_none (by omega)]; rfl
    · rw [List.getElem?_set_ne e, wipe_get (vs := vs)]
      have : (j ∈ v :: vs) = (j ∈ vs) := by
        rw [List.mem_cons]
        exact propext ⟨fun h => h.elim (fun z => absurd z.symm e) id, .inr⟩
      simp only [this]
theorem Wip.set {i : Nat} {σ : L2.St} {v : V} : Wip [i] σ (σ.set i (some v)) := fun vs h => by
  have hi : i ∈ vs := h i (by simp)
  apply List.ext_getElem?
  intro j
  rw [wipe_get, wipe_get]
  by_cases hj : j ∈ vs
  · rw [if_pos hj, if_pos hj]
    by_cases e : i = j
    · subst e
      by_cases hl : i < σ.length
      · rw [List.getElem?_set_self hl, List.getElem?_eq_getElem hl]; rfl
      · rw [List.getElem?_eq_none (by rw [List.length_set]; omega), List.getElem?_eq_none (by omega)]
    · rw [List.getElem?_set_ne e]
  · rw [if_neg hj, if_neg hj, List.getElem?_set_ne (fun z => hj (by rw [← z]; exact hi))]
theorem Wip.refl {sl : List Nat} {σ : L2.St} : Wip sl σ σ := fun _ _ => rfl
theorem Wip.trans {a b : List Nat} {σ σ1 σ2 : L2.St} (h1 : Wip a σ σ1) (h2 : Wip b σ1 σ2) : Wip (a ++ b) σ σ2 := fun vs h =>
  (h2 vs fun i hi => h i (List.mem_append_right _ hi)).trans (h1 vs fun i hi => h i (List.mem_append_left _ hi))
theorem Fr.set {K : PySem.W.Frag} {ρ : Pl} {S : Store} {H : Hp} {σ : L2.St} {env : Env} {i : Nat} {d : D} {v : V} (f : Fr K N env S ρ σ H) (h : Rep K ρ H d v) : Fr K N (env.set i (some d)) S ρ (σ.set i (some v)) H := by
  refine ⟨f.rel, by rw [List.length_set, List.length_set]; exact f.len, fun j d' e => ?_⟩
  by_cases hj : i = j
  · subst hj
    by_cases hl : i < env.length
    · rw [List.getElem?_set_self hl] at e
      cases e
      exact ⟨v, by rw [List.getElem?_set_self (by rw [← f.len]; exact hl)], VRep.of h⟩
    · rw [List.getElem?_eq_none (by rw [List.length_set]; omega)] at e; cases e
  · rw [List.getElem?_set_ne hj] at e
    obtain ⟨v', h1, h2⟩ := f.get j d' e
    exact ⟨v', by rw [List.getElem?_set_ne hj]; exact h1, h2⟩
theorem gp_name {i : Nat} {x : Str} (hN : X.N.Nodup) (hi : X.N[i]? = some x := by rfl) (hx : Loc X.env.scope x := by first | exact .inl rfl | exact .inr rfl) (hf : X.fn x = true ∨ X.env.scope.names.lookup x = some .local := by first | exact .inl rfl | exact .inr rfl | assumption) : GP N X (.Name x pos) (.nm i) :=
  PG.imp (pg_name hN hi hx hf) fun v σ H Q ⟨d, env, S, ρ, e1, fr, rp, hb, hq⟩ => by
    have hb' : some (env.set i (some d)) = some e1 := hb
    cases hb'
    exact hq _ (fr.set rp) Wip.set
theorem gps_nil : GPs N X [] [] := PGs.imp pgs_nil fun vs σ H Q ⟨ds, env, S, ρ, e1, fr, rp, hb, hq⟩ => by
  cases ds with
  | nil =>
    have hb' : some env = some e1 := hb
    cases hb'
    exact ⟨rp, hq _ fr Wip.refl⟩
  | cons d r => cases hb
theorem gps_cons {es : List Expr} {p : Pat} {ps : List Pat} (h1 : GP N X e p) (h2 : GPs N X es ps) (hs : (assignEach (e :: es) X.env).map (·.2) = assign e X.env :: (assignEach es X.env).map (·.2) := by rfl) : GPs N X (e :: es) (p :: ps) :=
  PGs.imp (pgs_cons h1 h2 hs) fun vs σ H Q ⟨ds, env, S, ρ, e1, fr, rp, hb, hq⟩ => by
    cases ds with
    | nil => cases hb
    | cons d r =>
      obtain ⟨v, q, rfl, p1, p2⟩ := rp
      have hb' : (match bindP p d env with | some e => bindPs ps r e | none => none) = some e1 := hb
      cases hp : bindP p d env with
      | none => rw [hp] at hb'; cases hb'
      | some e2 =>
        rw [hp] at hb'
        exact ⟨v, q, rfl, d, env, S, ρ, e2, fr, p1, hp, fun σ' f' w' => ⟨r, e2, S, ρ, e1, f', p2, hb', fun σ2 f2 w2 => hq σ2 f2 (w'.trans w2)⟩⟩
theorem gp_tup {es : List Expr} {k : Nat} {ps : List Pat} {n : Nat} (hc : X.calm = true) (h : GPs N X es ps) (hl : ps.length = n)
    (hn : (assignEach es X.env).length = n := by rfl) (hst : (assignEach es X.env).findIdx? (·.1) = none := by rfl) : GP N X (.Tuple es k pos) (.tp ps) :=
  PG.imp (pg_tup hc h hn hst) fun v σ H Q ⟨d, env, S, ρ, e1, fr, rp, hb, hq⟩ => by
    cases d with
    | tup ds =>
      obtain ⟨a, vs, ev, sq, q⟩ := rp
      have hb' : bindPs ps ds env = some e1 := hb
      have len : ∀ (ps : List Pat) (ds : List D) (env : Env), bindPs ps ds env = some e1 → ds.length = ps.length := by
        intro ps
        induction ps with
        | nil => intro ds env h; cases ds with
          | nil => rfl
          | cons _ _ => cases h
        | cons p ps ih => intro ds env h; cases ds with
          | nil => cases h
          | cons d ds =>
            have h' : (match bindP p d env with | some e => bindPs ps ds e | none => none) = some e1 := h
            cases hp : bindP p d env with
            | none => rw [hp] at h'; cases h'
            | some e2 =>
              rw [hp] at h'
              show ds.length + 1 = ps.length + 1
              rw [ih ds e2 h']
      exact ⟨a, vs, ev, sq.1, (RepL.length q).trans ((len ps ds env hb').trans hl), ds, env, S, ρ, e1, fr, q, hb', hq⟩
    | _ => cases hb
theorem gs_set {tg : Expr} {p : Pat} (he : GE N X W e me) (hg : GP N X tg p) (hs : swapsWithSole [tg] e pos.line X.env = pure false := by rfl) (hw : swappedStores [tg] e X.env = pure none := by rfl) (h1 : (assignEach [tg] X.env).map (·.2) = [assign tg X.env] := by rfl) : GS N X W (.Assign [tg] e pos) (sSet p me) :=
  PS.imp (ps_asg he hg hs hw h1) fun E σ H ⟨env, S, ρ, fr, h⟩ => ⟨env, S, ρ, fr, PostO.E fr h fun d S1 ρ1 v H1 st r1 p1 h1 => by
    have f1 := fr.step st r1
    cases hb : bindP p d env with
    | none => rw [hb] at h1; exact h1.elim
    | some e1 =>
      rw [hb] at h1
      exact ⟨d, env, S1, ρ1, e1, f1, p1, hb, fun σ' f' _ => PostO.nextE f' h1⟩⟩
end
/-! ### walks -/
/-- J hands out ds, one behind another, whatever happens meanwhile -/
structure Walks (K : PySem.W.Frag) (N : Nm) (J : It) (ds : List D) (ρ0 : Pl) (H0 : Hp) : Prop where
  go : ∀ (i : Nat) (d : D) (ρ : Pl) (S : Store) (H : Hp), ds[i]? = some d → Stp ρ0 H0 ρ H → Rel K N ρ S H → J.go i H ∧ ∀ x H', J.yld i H x H' → (∀ a o, H a = some o → H' a = some o) ∧ Rep K ρ H' d x
  stop : ∀ (i : Nat) (ρ : Pl) (S : Store) (H : Hp), ds[i]? = none → Stp ρ0 H0 ρ H → Rel K N ρ S H → J.stop i H
def PostI (K : PySem.W.Frag) (N : Nm) (W : WX) (ρ : Pl) (σ : L2.St) (H : Hp) (r : R (List D)) (Q : It → Hp → Prop) : Prop := match r with
  | .ok ds S' => ∀ (ρ' : Pl) (J : It) (H' : Hp), Step ρ H ρ' H' → Rel K N ρ' S' H' → Walks K N J ds ρ' H' → Q J H'
  | .exc c as S' => ∀ (ρ' : Pl) (oe : Option Addr) (H' : Hp), Step ρ H ρ' H' → Rel K N ρ' S' H' → XRep K N ρ' H' c as oe → W (.ref (N.xad c)) oe σ H'
  | .stuck => False
def tI (K : PySem.W.Frag) (N : Nm) (W : WX) (m : IM) : TI := fun σ H Q => ∃ env S ρ, Fr K N env S ρ σ H ∧ PostI K N W ρ σ H (m env S) Q
def GI (N : Nm) (X : Cx) (W : WX) (tg e : Expr) (m : IM) : Prop := PI X tg e (tI X.K N W m)
theorem RepL.at {K : PySem.W.Frag} {ρ : Pl} {H : Hp} : ∀ {ds : List D} {vs : List V} {i : Nat}, RepL K ρ H ds vs → (∀ d, ds[i]? = some d → ∃ v, vs[i]? = some v ∧ Rep K ρ H d v) ∧ (ds[i]? = none → vs[i]? = none)
  | [], vs, i, h => by rw [show vs = [] from h]; exact ⟨fun d e => by simp at e, fun _ => by simp⟩
  | d :: ds, vs, 0, h => by
    obtain ⟨v, r, rfl, p, q⟩ := h
    exact ⟨fun d' e => ⟨v, rfl, by have : d = d' := by simpa using e
                                   exact this ▸ p⟩, fun e => by simp at e⟩
  | d :: ds, vs, i + 1, h => by
    obtain ⟨v, r, rfl, p, q⟩ := h
    have := RepL.at (i := i) q
    exact ⟨fun d' e => by simpa using this.1 d' (by simpa using e), fun e => by simpa using this.2 (by simpa using e)⟩
theorem Walks.lst {K : PySem.W.Frag} {N : Nm} {ρ : Pl} {S : Store} {H : Hp} {a : Addr} {ds : List D} {vs : List V} (r : Rel K N ρ S H) (n : a ∉ ρ.v ∧ a ∉ ρ.h) (e : H a = some (.lst vs)) (q : RepL K ρ H ds vs) : Walks K N (Itl K a) ds ρ H := by
  have at_ : ∀ {ρ' : Pl} {H' : Hp}, Stp ρ H ρ' H' → SqL K H' a vs := fun st => SqL.of (st.kp _ _ e n.1 n.2).1
  refine ⟨fun i d ρ' S' H' hd st r' => ?_, fun i ρ' S' H' hd st r' => ?_⟩
  · obtain ⟨v, hv, hr⟩ := (RepL.at (i := i) (RepL.kw r st _ _ q)).1 d hd
    exact ⟨⟨vs, v, at_ st, hv⟩, fun x H2 y => by
      obtain ⟨rfl, y⟩ := y
      have := y vs (at_ st)
      rw [hv] at this; cases this
      exact ⟨fun _ _ h => h, hr⟩⟩
  · have := (RepL.at (i := i) q).2 hd
    exact ⟨vs, at_ st, List.getElem?_eq_none_iff.mp this⟩
theorem Walks.tup {K : PySem.W.Frag} {N : Nm} {ρ : Pl} {S : Store} {H : Hp} {a : Addr} {ds : List D} {vs : List V} (r : Rel K N ρ S H) (e : SqT K H a vs) (q : RepL K ρ H ds vs) : Walks K N (Itt K a) ds ρ H := by
  refine ⟨fun i d ρ' S' H' hd st r' => ?_, fun i ρ' S' H' hd st r' => ?_⟩
  · obtain ⟨v, hv, hr⟩ := (RepL.at (i := i) (RepL.kw r st _ _ q)).1 d hd
    exact ⟨⟨vs, v, r.kwT st e, hv⟩, fun x H2 y => by
      obtain ⟨rfl, y⟩ := y
      have := y vs (r.kwT st e)
      rw [hv] at this; cases this
      exact ⟨fun _ _ h => h, hr⟩⟩
  · have := (RepL.at (i := i) q).2 hd
    exact ⟨vs, r.kwT st e, List.getElem?_eq_none_iff.mp this⟩
/-- nothing but new objects -/
theorem Step.ext {ρ : Pl} {H H' : Hp} (k : ∀ a o, H a = some o → H' a = some o) : Step ρ H ρ H' := ⟨List.prefix_refl _, rfl, rfl, fun a o e _ => k a o e, fun _ h => .inl h⟩
end G
end

section
set_option Elab.async false
set_option linter.all false
set_option maxRecDepth 100000
set_option maxHeartbeats 4000000
/-! G4: walks of lists, tuples, ranges; for, while, comprehensions; a def by its body. By an AI agent. -/
namespace G
open PySem PySem.Spec PyProof.Rows L2
variable [Cold]
section
variable {N : Nm} {X : Cx} {W : WX} {tg e a b : Expr} {me ma mb : EM} {pos p : Pos}
theorem PI.imp {tg it : Expr} {t t' : TI} (h : PI X tg it t) (i : ∀ σ H R, t' σ H R → t σ H R) : PI X tg it t' := ⟨fun pins s σ H R I q => h.run pins s σ H R I (i _ _ _ q)⟩
/-- a list or a tuple -/
def iSq (K : PySem.W.Frag) (tl : TE) : TI := fun σ H R => tl σ H fun x H1 => ∃ a, x = .ref a ∧ ((∃ xs, SqL K H1 a xs) ∧ R (Itl K a) H1 ∨ (∃ xs, SqT K H1 a xs) ∧ R (Itt K a) H1)
theorem pi_sq {l : Expr} {tl : TE} (hl : PE X l tl) : PI X tg l (iSq X.K tl) := by
  refine ⟨fun pins s σ H R I h => ?_⟩
  refine thn (hl.run pins s σ H _ I h) fun v s1 ⟨x, H1, I1, r1, q1⟩ => ?_
  obtain ⟨a, e, ⟨⟨xs, hq⟩, q⟩ | ⟨⟨xs, hq⟩, q⟩⟩ := q1
  · subst e
    cases r1
    obtain ⟨its, rv, p, hz⟩ := I1.list hq
    refine wpAny_pyIter_list p.isList ?_
    refine ⟨s1.heap.objs.size, [s1.heap.objs.size], _, _, H1, rfl, I1.kept (t' := s1.toks) fun b o e => Heap.get?_push_of_some _ e, turn_list a _, ⟨_, Heap.get?_push_size _ rfl, rfl, rfl⟩, fun b hb => ?_, q⟩
    have e : b = s1.heap.objs.size := by simpa using hb
    subst e
    exact I1.fpOk (Nat.le_refl _) (I1.hok.fresh (Nat.le_refl _))
  · subst e
    cases r1
    obtain ⟨its, rv, p, hz⟩ := I1.tuple hq
    refine wpAny_pyIter_tuple (show s1.heap.IsTuple a its.toArray from p) ?_
    refine ⟨s1.heap.objs.size, [s1.heap.objs.size], _, _, H1, rfl, I1.kept (t' := s1.toks) fun b o e => Heap.get?_push_of_some _ e, turn_tuple a _, ⟨_, Heap.get?_push_size _ rfl, rfl, rfl⟩, fun b hb => ?_, q⟩
    have e : b = s1.heap.objs.size := by simpa using hb
    subst e
    exact I1.fpOk (Nat.le_refl _) (I1.hok.fresh (Nat.le_refl _))
theorem PostI.E {K : PySem.W.Frag} {ρ : Pl} {H : Hp} {σ : L2.St} {r : R D} {k : D → Store → R (List D)} {Q : It → Hp → Prop} {Q' : VK} (h : PostI K N W ρ σ H (r.bnd k) Q)
    (c : ∀ d S1 ρ1 v H1, Step ρ H ρ1 H1 → Rel K N ρ1 S1 H1 → Rep K ρ1 H1 d v → PostI K N W ρ1 σ H1 (k d S1) Q → Q' v H1) : PostE K N W ρ σ H r Q' := by
  cases r with
  | ok d S1 => exact fun ρ1 v H1 st r1 rp => c d S1 ρ1 v H1 st r1 rp (by
      have h' : PostI K N W ρ σ H (k d S1) Q := h
      cases hk : k d S1 with
      | ok ds S2 => rw [hk] at h'; exact fun ρ2 J H2 s2 => h' ρ2 J H2 (st.trans s2)
      | exc cc as S2 => rw [hk] at h'; exact fun ρ2 J H2 s2 => h' ρ2 J H2 (st.trans s2)
      | stuck => rw [hk] at h'; exact h')
  | exc c as S1 => exact h
  | stuck => exact h
theorem gi_seq (h : GE N X W e me) : GI N X W tg e (iSeq me) :=
  PI.imp (pi_sq h) fun σ H R ⟨env, S, ρ, fr, h⟩ => ⟨env, S, ρ, fr, PostI.E h fun d S1 ρ1 v H1 st r1 p1 h1 => by
    cases d with
    | lst ds =>
      obtain ⟨a, vs, ev, n, e, q⟩ := p1
      exact ⟨a, ev, .inl ⟨⟨vs, SqL.of e⟩, h1 _ _ _ (Step.refl _ _) r1 (Walks.lst r1 n e q)⟩⟩
    | tup ds =>
      obtain ⟨a, vs, ev, e, q⟩ := p1
      exact ⟨a, ev, .inr ⟨⟨vs, e.1⟩, h1 _ _ _ (Step.refl _ _) r1 (Walks.tup r1 e.1 q)⟩⟩
    | _ => exact h1.elim⟩
theorem Walks.rng {K : PySem.W.Frag} {ρ : Pl} {H : Hp} {lo : Int} {n : Nat} : Walks K N (Itr lo n) (rangeD lo n) ρ H := by
  have hl : (rangeD lo n).length = n := by simp [rangeD]
  refine ⟨fun i d ρ' S' H' hd st r' => ?_, fun i ρ' S' H' hd st r' => ?_⟩
  · have hi : i < n := by have := (List.getElem?_eq_some_iff.mp hd).1; omega
    have e : d = .int (lo + (i : Int)) := by
      unfold rangeD at hd
      rw [List.getElem?_map, List.getElem?_range hi] at hd
      exact (Option.some.inj hd).symm
    subst e
    exact ⟨hi, fun x H2 y => by
      obtain ⟨rfl, rfl⟩ := y
      exact ⟨fun _ _ h => h, rfl⟩⟩
  · have := List.getElem?_eq_none_iff.mp hd
    show n ≤ i
    omega
theorem of_big {i : Int} (h : big i = true) : -(2 ^ 62) ≤ i ∧ i < 2 ^ 62 := by
  unfold big at h
  have := of_decide_eq_true h
  omega
theorem PostI.ok {K : PySem.W.Frag} {ρ : Pl} {H : Hp} {σ : L2.St} {S : Store} {ds : List D} {J : It} {Q : It → Hp → Prop} (h : PostI K N W ρ σ H (.ok ds S) Q) (r : Rel K N ρ S H) (w : Walks K N J ds ρ H) : Q J H := h ρ J H (Step.refl _ _) r w
theorem PostI.step {K : PySem.W.Frag} {ρ ρ' : Pl} {H H' : Hp} {σ : L2.St} {r : R (List D)} {Q : It → Hp → Prop} (st : Step ρ H ρ' H') (h : PostI K N W ρ σ H r Q) : PostI K N W ρ' σ H' r Q := by
  cases r with
  | ok ds S2 => exact fun ρ2 J H2 s2 => h ρ2 J H2 (st.trans s2)
  | exc cc as S2 => exact fun ρ2 J H2 s2 => h ρ2 J H2 (st.trans s2)
  | stuck => exact h
theorem gi_range1 (h : GE N X W a ma) (hm : X.mg "range" = none) (hg : Gl X "range" := by rfl) (hs : starEach [a] X.env = [(false, eval a X.env)] := by rfl) : GI N X W tg (.Call (.Name "range" p) [a] [] pos) (iRange1 ma) :=
  PI.imp (pi_range1 hg hm (ga_cons h ga_nil hs) hs) fun σ H R ⟨env, S, ρ, fr, h⟩ => ⟨env, S, ρ, fr, by
    unfold iRange1 at h
    unfold aCons
    cases hma : ma env S with
    | ok d S1 =>
      rw [hma] at h
      have h2 : PostI X.K N W ρ σ H (rg1 d S1) R := h
      intro ρ1 vs H1 st r1 p1
      obtain ⟨v, r, rfl, hv, hr⟩ := p1
      have hr' : r = [] := hr
      subst hr'
      unfold rg1 at h2
      cases d with
      | int j =>
        have hv' : v = .int j := hv
        subst hv'
        dsimp only at h2
        by_cases hb : big j = true
        · rw [if_pos hb] at h2
          exact ⟨j, rfl, (of_big hb).1, (of_big hb).2, (PostI.step st h2).ok r1 Walks.rng⟩
        · rw [if_neg hb] at h2; exact h2.elim
      | _ => exact h2.elim
    | exc c as S1 => rw [hma] at h; exact h
    | stuck => rw [hma] at h; exact h⟩
theorem gi_range2 (ha : GE N X W a ma) (hb : GE N X W b mb) (hm : X.mg "range" = none) (hg : Gl X "range" := by rfl) (hs : starEach [a, b] X.env = [(false, eval a X.env), (false, eval b X.env)] := by rfl) (hs1 : starEach [b] X.env = [(false, eval b X.env)] := by rfl) :
    GI N X W tg (.Call (.Name "range" p) [a, b] [] pos) (iRange2 ma mb) :=
  PI.imp (pi_range2 hg hm (ga_cons ha (ga_cons hb ga_nil hs1) (hs.trans (by rw [hs1]))) hs hs1) fun σ H R ⟨env, S, ρ, fr, h⟩ => ⟨env, S, ρ, fr, by
    unfold iRange2 at h
    unfold aCons
    cases hma : ma env S with
    | ok x S1 =>
      rw [hma] at h
      have h1 : PostI X.K N W ρ σ H ((mb env S1).bnd fun y S2 => rg2 x y S2) R := h
      show PostA X.K N W ρ σ H (((mb env S1).bnd fun y S2 => (aNil env S2).bnd fun xs S3 => .ok (y :: xs) S3).bnd fun xs S2 => .ok (x :: xs) S2) _
      cases hmb : mb env S1 with
      | ok y S2 =>
        rw [hmb] at h1
        have h2 : PostI X.K N W ρ σ H (rg2 x y S2) R := h1
        intro ρ1 vs H1 st r1 p1
        obtain ⟨v, r, rfl, hv, r2, r3, e3, hu, hr⟩ := p1
        subst e3
        have hr' : r3 = [] := hr
        subst hr'
        unfold rg2 at h2
        cases x with
        | int i => cases y with
          | int j =>
            have hv' : v = .int i := hv
            have hu' : r2 = .int j := hu
            subst hv' hu'
            dsimp only at h2
            by_cases hb : (big i && big j) = true
            · rw [if_pos hb] at h2
              obtain ⟨b1, b2⟩ := Bool.and_eq_true_iff.mp hb
              exact ⟨i, j, rfl, ⟨(of_big b1).1, (of_big b1).2, (of_big b2).1, (of_big b2).2⟩, (PostI.step st h2).ok r1 Walks.rng⟩
            · rw [if_neg hb] at h2; exact h2.elim
          | _ => exact h2.elim
        | _ => exact h2.elim
      | exc c as S2 => rw [hmb] at h1; exact h1
      | stuck => rw [hmb] at h1; exact h1
    | exc c as S1 => rw [hma] at h; exact h
    | stuck => rw [hma] at h; exact h⟩
/-! ### for -/
variable {body : List Stmt} {ms : SM} {it : Expr} {mi : IM} {pt : Pat}
theorem for_go {K : PySem.W.Frag} {J : It} {g : TG} {tb : TS} {E : Ends} {ds : List D} {ρ0 : Pl} {H0 : Hp} {S0 : Store} {env0 : Env} {σ0 : L2.St} (fr : Fr K N env0 S0 ρ0 σ0 H0) (hw : Walks K N J ds ρ0 H0)
    (hg : ∀ v σ H Q, tP K N pt v σ H Q → g v σ H Q) (hb : ∀ E' σ H, tS K N W ms E' σ H → tb E' σ H) (h : PostO K N W ρ0 H0 (goFor pt ms ds env0 S0) E) :
    ∃ Wv : Nat → Nat → L2.St → Hp → Prop, (∃ m, Wv 0 m σ0 H0) ∧ ∀ i m σ H, Wv i m σ H →
      (J.stop i H ∧ E.nx σ H) ∨ (J.go i H ∧ ∃ Nx : L2.St → Hp → Prop, (∀ σ' H', Nx σ' H' → ∃ m', m' < m ∧ Wv (i + 1) m' σ' H') ∧ ∀ x H', J.yld i H x H' → g x σ H' fun σ2 H2 => tb { E with nx := Nx, ct := Nx, bk := E.nx } σ2 H2) := by
  refine ⟨fun i m σ H => m = ds.length - i ∧ i ≤ ds.length ∧ ∃ env S ρ, Fr K N env S ρ σ H ∧ Step ρ0 H0 ρ H ∧ PostO K N W ρ H (goFor pt ms (ds.drop i) env S) E, ⟨_, rfl, Nat.zero_le _, env0, S0, ρ0, fr, Step.refl _ _, h⟩, ?_⟩
  rintro i m σ H ⟨rfl, hi, env, S, ρ, f, st, h⟩
  by_cases hlt : i < ds.length
  · obtain ⟨d, hd⟩ : ∃ d, ds[i]? = some d := ⟨ds[i], List.getElem?_eq_getElem hlt⟩
    obtain ⟨go, yl⟩ := hw.go i d ρ S H hd st.w f.rel
    have hdrop : ds.drop i = d :: ds.drop (i + 1) := by
      rw [List.drop_eq_getElem_cons hlt]
      rw [List.getElem?_eq_getElem hlt] at hd
      cases hd
      rfl
    rw [hdrop] at h
    refine .inr ⟨go, fun σ' H' => ∃ env' S' ρ', Fr K N env' S' ρ' σ' H' ∧ Step ρ0 H0 ρ' H' ∧ PostO K N W ρ' H' (goFor pt ms (ds.drop (i + 1)) env' S') E, fun σ' H' nx => ⟨ds.length - (i + 1), by omega, rfl, hlt, nx⟩, fun x H' y => ?_⟩
    obtain ⟨k1, p1⟩ := yl x H' y
    have s1 : Step ρ H ρ H' := Step.ext k1
    have r1 : Rel K N ρ S H' := f.rel.same k1
    refine hg _ _ _ _ ?_
    have h' : PostO K N W ρ H (match bindP pt d env with
      | none => .stuck
      | some e => match ms e S with
        | .nx e1 S1 => goFor pt ms (ds.drop (i + 1)) e1 S1
        | .ct e1 S1 => goFor pt ms (ds.drop (i + 1)) e1 S1
        | .bk e1 S1 => .nx e1 S1
        | o => o) E := h
    cases hbp : bindP pt d env with
    | none => rw [hbp] at h'; exact h'.elim
    | some e1 =>
      rw [hbp] at h'
      refine ⟨d, env, S, ρ, e1, f.step s1 r1, p1, hbp, fun σ2 f2 _ => hb _ _ _ ⟨e1, S, ρ, f2, ?_⟩⟩
      have h2 : PostO K N W ρ H (match ms e1 S with
        | .nx e1 S1 => goFor pt ms (ds.drop (i + 1)) e1 S1
        | .ct e1 S1 => goFor pt ms (ds.drop (i + 1)) e1 S1
        | .bk e1 S1 => .nx e1 S1
        | o => o) E := h'
      cases hm : ms e1 S with
      | nx e2 S2 => rw [hm] at h2; exact fun ρ2 σ3 H3 s3 f3 => ⟨e2, S2, ρ2, f3, (st.trans s1).trans s3, PostO.step (s1.trans s3) h2⟩
      | ct e2 S2 => rw [hm] at h2; exact fun ρ2 σ3 H3 s3 f3 => ⟨e2, S2, ρ2, f3, (st.trans s1).trans s3, PostO.step (s1.trans s3) h2⟩
      | bk e2 S2 => rw [hm] at h2; exact fun ρ2 σ3 H3 s3 f3 => h2 ρ2 σ3 H3 (s1.trans s3) f3
      | rt d2 S2 => rw [hm] at h2; exact fun ρ2 v3 H3 s3 r3 p3 => h2 ρ2 v3 H3 (s1.trans s3) r3 p3
      | exc c as e2 S2 => rw [hm] at h2; exact fun ρ2 σ3 oe H3 s3 f3 x3 => h2 ρ2 σ3 oe H3 (s1.trans s3) f3 x3
      | stuck => rw [hm] at h2; exact h2.elim
  · have e : i = ds.length := by omega
    subst e
    rw [List.drop_length] at h
    exact .inl ⟨hw.stop _ ρ S H (by simp) st.w f.rel, PostO.nextE f h⟩
theorem gs_for (hp : PassesOwn (model X.prog X.w) X.A X.env X.xe) (hc : X.calm = true) (hi : GI N X W tg it mi) (hg : GP N X tg pt) (hb : GSs N X W body ms) (hs : ∀ x, foldedSetIterable it X.env x = pure x := by intro _; rfl) : GS N X W (.For tg it body [] pos) (sFor pt mi ms) :=
  PS.imp (ps_for hp hc hi hg hb hs) fun E σ H ⟨env, S, ρ, fr, h⟩ => ⟨env, S, ρ, fr, by
    unfold sFor at h
    cases hmi : mi env S with
    | ok ds S1 =>
      rw [hmi] at h
      intro ρ1 J H1 st r1 hw
      exact for_go (fr.step st r1) hw (fun _ _ _ _ q => q) (fun _ _ _ q => q) (PostO.step st h)
    | exc c as S1 =>
      rw [hmi] at h
      exact fun ρ1 oe H1 st r1 x => h ρ1 σ oe H1 st (fr.step st r1) x
    | stuck => rw [hmi] at h; exact h⟩
/-! ### while -/
theorem gs_while {c : Expr} {tc : TM} {F : Nat} (hp : PassesOwn (model X.prog X.w) X.A X.env X.xe) (hc : GT N X W c tc) (hb : GSs N X W body ms) : GS N X W (.While c body [] pos) (sWhile F tc ms) :=
  PS.imp (ps_while hp hc hb) fun E σ H ⟨env, S, ρ, fr, h⟩ => by
    refine ⟨fun m σ' H' => ∃ env' S' ρ', Fr X.K N env' S' ρ' σ' H' ∧ PostO X.K N W ρ' H' (goWhile tc ms m env' S') E, ⟨F, env, S, ρ, fr, h⟩, ?_⟩
    rintro m σ1 H1 ⟨env1, S1, ρ1, f1, h1⟩
    cases m with
    | zero => exact h1.elim
    | succ n =>
      have h1' : PostO X.K N W ρ1 H1 ((tc env1 S1).sb env1 fun b S2 => match b with
        | false => .nx env1 S2
        | true => match ms env1 S2 with
          | .nx e1 S3 => goWhile tc ms n e1 S3
          | .ct e1 S3 => goWhile tc ms n e1 S3
          | .bk e1 S3 => .nx e1 S3
          | o => o) E := h1
      refine ⟨env1, S1, ρ1, f1, PostO.B f1 h1' fun b S2 ρ2 H2 st2 r2 h2 => ?_⟩
      cases b with
      | false => rw [if_neg Bool.false_ne_true]; exact PostO.nextE (f1.step st2 r2) h2
      | true =>
        rw [if_pos rfl]
        refine ⟨fun σ' H' => ∃ env' S' ρ', Fr X.K N env' S' ρ' σ' H' ∧ PostO X.K N W ρ' H' (goWhile tc ms n env' S') E, fun σ' H' q => ⟨n, Nat.lt_succ_self _, q⟩, env1, S2, ρ2, f1.step st2 r2, ?_⟩
        have h3 : PostO X.K N W ρ2 H2 (match ms env1 S2 with
          | .nx e1 S3 => goWhile tc ms n e1 S3
          | .ct e1 S3 => goWhile tc ms n e1 S3
          | .bk e1 S3 => .nx e1 S3
          | o => o) E := h2
        cases hm : ms env1 S2 with
        | nx e2 S3 => rw [hm] at h3; exact fun ρ3 σ3 H3 s3 f3 => ⟨e2, S3, ρ3, f3, PostO.step s3 h3⟩
        | ct e2 S3 => rw [hm] at h3; exact fun ρ3 σ3 H3 s3 f3 => ⟨e2, S3, ρ3, f3, PostO.step s3 h3⟩
        | bk e2 S3 => rw [hm] at h3; exact fun ρ3 σ3 H3 s3 f3 => h3 ρ3 σ3 H3 s3 f3
        | rt d2 S3 => rw [hm] at h3; exact h3
        | exc c as e2 S3 => rw [hm] at h3; exact h3
        | stuck => rw [hm] at h3; exact h3.elim
end
end G
end

section
set_option Elab.async false
set_option linter.all false
set_option maxRecDepth 100000
set_option maxHeartbeats 4000000
/-! G5: comprehensions; defs by their bodies. By an AI agent. -/
namespace G
open PySem PySem.Spec PyProof.Rows L2
variable [Cold]
abbrev WF : WX := fun _ _ _ _ => False
theorem wipeE_get {env : Env} {j : Nat} : ∀ {vs : List Nat}, (wipeE vs env)[j]? = if j ∈ vs then (env[j]?).map (fun _ => none) else env[j]?
  | [] => by simp [wipeE]
  | v :: vs => by
    show ((wipeE vs env).set v none)[j]? = _
    have wl : ∀ vs : List Nat, (wipeE vs env).length = env.length := by
      intro vs; induction vs with
      | nil => rfl
      | cons a r ih => show ((wipeE r env).set a none).length = _; rw [List.length_set, ih]
    by_cases e : v = j
    · subst e
      rw [if_pos List.mem_cons_self]
      by_cases hl : v < env.length
      · rw [List.getElem?_set_self (by rw [wl]; exact hl), List.getElem?_eq_getElem hl]; rfl
      · rw [List.getElem?_eq_none (by rw [List.length_set, wl]; omega), List.getElem?_eq_none (by omega)]; rfl
    · rw [List.getElem?_set_ne e, wipeE_get (vs := vs)]
      have : (j ∈ v :: vs) = (j ∈ vs) := by
        rw [List.mem_cons]
        exact propext ⟨fun h => h.elim (fun z => absurd z.symm e) id, .inr⟩
      simp only [this]
theorem wipeE_len {env : Env} : ∀ vs : List Nat, (wipeE vs env).length = env.length := by
  intro vs; induction vs with
  | nil => rfl
  | cons a r ih => show ((wipeE r env).set a none).length = _; rw [List.length_set, ih]
theorem wipe_wipe {σ : L2.St} {vs : List Nat} : wipe (wipe σ vs) vs = wipe σ vs := by
  apply List.ext_getElem?
  intro j
  rw [wipe_get, wipe_get]
  by_cases h : j ∈ vs
  · rw [if_pos h, if_pos h]
    cases σ[j]? <;> rfl
  · rw [if_neg h, if_neg h]
theorem Fr.wipe {K : PySem.W.Frag} {N : Nm} {env : Env} {S : Store} {ρ : Pl} {σ : L2.St} {H : Hp} (f : Fr K N env S ρ σ H) (vs : List Nat) : Fr K N (wipeE vs env) S ρ (L2.wipe σ vs) H := by
  refine ⟨f.rel, by rw [wipeE_len, L2.wipe_length]; exact f.len, fun i d e => ?_⟩
  rw [wipeE_get] at e
  by_cases h : i ∈ vs
  · rw [if_pos h] at e
    cases q : env[i]? with
    | none => rw [q] at e; cases e
    | some o => rw [q] at e; cases e
  · rw [if_neg h] at e
    obtain ⟨v, h1, h2⟩ := f.get i d e
    exact ⟨v, by rw [wipe_get, if_neg h]; exact h1, h2⟩
/-- an object is hidden | seen again -/
def Pl.hide (ρ : Pl) (p : Addr) : Pl := ⟨ρ.v, p :: ρ.h, ρ.k⟩
theorem Stp.hide {ρ : Pl} {H : Hp} {p : Addr} {o : HO} (hp : H p = none) : Stp ρ H (ρ.hide p) (upd H p o) :=
  ⟨List.prefix_refl _, fun a u e n m => ⟨by rw [upd_ne (ne_of_none e hp)]; exact e, n, fun z => by
    rcases List.mem_cons.mp z with z | z
    · rw [z, hp] at e; cases e
    · exact m z⟩⟩
/-- an object that is hidden is changed -/
theorem Stp.inside {ρ : Pl} {H : Hp} {p : Addr} {o : HO} (hp : p ∈ ρ.h) : Stp ρ H ρ (upd H p o) :=
  ⟨List.prefix_refl _, fun a u e n m => ⟨by rw [upd_ne (fun z => m (by rw [z]; exact hp))]; exact e, n, m⟩⟩
theorem Stp.show {v h : List Addr} {k : List (Addr × Obj × List (Key × V))} {H : Hp} {p : Addr} : Stp ⟨v, p :: h, k⟩ H ⟨v, h, k⟩ H :=
  ⟨List.prefix_refl _, fun a u e n m => ⟨e, n, fun z => m (List.mem_cons_of_mem _ z)⟩⟩
section
variable {K : PySem.W.Frag} {N : Nm} {ρ : Pl} {S : Store} {H : Hp} {p : Addr} {o : HO}
theorem Rel.hide (r : Rel K N ρ S H) (hp : H p = none) (ho : Mb (some o)) : Rel K N (ρ.hide p) S (upd H p o) := by
  have st : Stp ρ H (ρ.hide p) (upd H p o) := Stp.hide hp
  refine ⟨r.len, r.nd, fun a ha => ?_, fun x hx => by rw [upd_ne (ne_of_none (r.lk x hx) hp)]; exact r.lk x hx, fun n so e => ?_, r.cstW st⟩
  · rcases List.mem_cons.mp ha with z | z
    · rw [z, upd_same]; exact ⟨ho, fun q => r.not_none q hp⟩
    · obtain ⟨h1, h2⟩ := r.hh a z
      exact ⟨by rw [upd_ne (fun q => h1.ne (by rw [q]; exact hp))]; exact h1, h2⟩
  · obtain ⟨a, h1, h2⟩ := r.at_ n so e
    have na : a ≠ p := fun z => r.not_none (List.mem_of_getElem? h1) (z ▸ hp)
    exact ⟨a, h1, h2.kw r st (fun _ h _ => h) (upd_ne na)⟩
theorem Rel.inside (r : Rel K N ρ S H) (hp : p ∈ ρ.h) (hm : ∀ b q, H p ≠ some (.frz b (.dK q))) (ho : Mb (some o)) : Rel K N ρ S (upd H p o) := by
  have st : Stp ρ H ρ (upd H p o) := Stp.inside hp
  have np := (r.hh p hp).2
  refine ⟨r.len, r.nd, fun a ha => ⟨?_, (r.hh a ha).2⟩, fun x hx => by rw [upd_ne (fun z => hm _ _ (by rw [← z]; exact r.lk x hx))]; exact r.lk x hx, fun n so e => ?_, r.cstW st⟩
  · by_cases q : a = p
    · rw [q, upd_same]; exact ho
    · rw [upd_ne q]; exact (r.hh a ha).1
  · obtain ⟨a, h1, h2⟩ := r.at_ n so e
    have na : a ≠ p := fun z => np (by rw [← z]; exact List.mem_of_getElem? h1)
    exact ⟨a, h1, h2.kw r st (fun _ h _ => h) (upd_ne na)⟩
theorem Rel.show {v h : List Addr} {k : List (Addr × Obj × List (Key × V))} (r : Rel K N ⟨v, p :: h, k⟩ S H) : Rel K N ⟨v, h, k⟩ S H :=
  ⟨r.len, r.nd, fun a ha => r.hh a (List.mem_cons_of_mem _ ha), r.lk, fun n so e => let ⟨a, h1, h2⟩ := r.at_ n so e; ⟨a, h1, h2.kw r Stp.show (fun _ h _ => h) rfl⟩, fun a o q e => let ⟨h1, h2, h3⟩ := r.cst a o q e; ⟨h1, h2, fun z => h3 (List.mem_cons_of_mem _ z)⟩⟩
end
section
variable {N : Nm} {X : Cx} {W : WX} {elt tg it : Expr} {ifs : List Expr} {scope : Scope} {own : List (Str × Nat)} {pos : Pos} {mi : IM} {pt : Pat} {tc : TM} {me : EM}
theorem RepL.snoc {K : PySem.W.Frag} {ρ : Pl} {H : Hp} {d : D} {v : V} (hd : Rep K ρ H d v) : ∀ {ds : List D} {vs : List V}, RepL K ρ H ds vs → RepL K ρ H (ds ++ [d]) (vs ++ [v])
  | [], vs, h => by rw [show vs = [] from h]; exact ⟨v, [], rfl, hd, rfl⟩
  | x :: ds, vs, h => by
    obtain ⟨u, r, rfl, h1, h2⟩ := h
    exact ⟨u, r ++ [v], rfl, h1, RepL.snoc hd h2⟩
/-- the turns of a comprehension -/
theorem lc_go {K : PySem.W.Frag} {J : It} {g : TG} {tt : TT} {te : TE} {vs : List Nat} {Q : VK} {ds : List D} {ρ1 : Pl} {H1 : Hp} {S1 : Store} {env : Env} {σ : L2.St} (fr : Fr K N env S1 ρ1 σ H1) (hw : Walks K N J ds ρ1 H1)
    (hsl : ∀ i ∈ pt.slots, i ∈ vs) (hg : ∀ v σ H Q, tP K N pt v σ H Q → g v σ H Q) (ht : ∀ σ H Q, tB_ K N WF tc σ H Q → tt σ H Q) (he : ∀ σ H Q, tE K N WF me σ H Q → te σ H Q)
    (h : PostE K N W ρ1 σ H1 (goLc vs pt tc me env ds [] S1) Q) (L : Addr) (hL : H1 L = none) :
    ∃ Wv : Nat → Nat → Hp → Prop, (∃ m, Wv 0 m (upd H1 L (.lst []))) ∧ ∀ i m H, Wv i m H →
      (J.stop i H ∧ Q (.ref L) H) ∨ (J.go i H ∧ ∃ Nx : Hp → Prop, (∀ H', Nx H' → ∃ m', m' < m ∧ Wv (i + 1) m' H') ∧ ∀ x H', J.yld i H x H' → g x (wipe σ vs) H' fun σ2 H2 => wipe σ2 vs = wipe σ vs ∧ tt σ2 H2 fun b H3 =>
        if b = true then te σ2 H3 fun y H4 => ∃ acc, H4 L = some (.lst acc) ∧ acc.length < sizeLine ∧ Nx (upd H4 L (.lst (acc ++ [y]))) else Nx H3) := by
  let Inn : Nat → Hp → Prop := fun i H => ∃ (S : Store) (v : List Addr) (accD : List D) (accV : List V), Rel K N ⟨v, L :: ρ1.h, ρ1.k⟩ S H ∧ Step ρ1 H1 ⟨v, ρ1.h, ρ1.k⟩ H ∧ L ∉ v ∧ H L = some (.lst accV) ∧ RepL K ⟨v, L :: ρ1.h, ρ1.k⟩ H accD accV ∧ PostE K N W ρ1 σ H1 (goLc vs pt tc me env (ds.drop i) accD S) Q
  refine ⟨fun i m H => m = ds.length - i ∧ i ≤ ds.length ∧ Inn i H, ⟨_, rfl, Nat.zero_le _, S1, ρ1.v, [], [], fr.rel.hide hL (.inl ⟨_, rfl⟩), Step.fresh hL, fun z => fr.rel.not_none z hL, upd_same, rfl, h⟩, ?_⟩
  have sx : ∀ {v : List Addr} {H : Hp}, Step ρ1 H1 ⟨v, ρ1.h, ρ1.k⟩ H → L ∉ v → Stp ρ1 H1 ⟨v, L :: ρ1.h, ρ1.k⟩ H := by
    intro v H st nL
    refine ⟨st.pre, fun a o e n m => ⟨st.keep a o e n, fun z => ?_, fun z => ?_⟩⟩
    · rcases st.new a z with q | q
      · exact n q
      · rw [e] at q; cases q
    · rcases List.mem_cons.mp z with z | z
      · rw [z, hL] at e; cases e
      · exact m z
  rintro i m H ⟨rfl, hi, S, v, accD, accV, r, st, nL, eL, ra, h⟩
  have r0 : Rel K N ⟨v, ρ1.h, ρ1.k⟩ S H := r.show
  by_cases hlt : i < ds.length
  · obtain ⟨d, hd⟩ : ∃ d, ds[i]? = some d := ⟨ds[i], List.getElem?_eq_getElem hlt⟩
    obtain ⟨go, yl⟩ := hw.go i d _ S H hd (sx st nL) r
    have hdrop : ds.drop i = d :: ds.drop (i + 1) := by
      rw [List.drop_eq_getElem_cons hlt]
      rw [List.getElem?_eq_getElem hlt] at hd
      cases hd
      rfl
    rw [hdrop] at h
    refine .inr ⟨go, Inn (i + 1), fun H' nx => ⟨ds.length - (i + 1), by omega, rfl, hlt, nx⟩, fun x H' y => ?_⟩
    obtain ⟨k1, p1⟩ := yl x H' y
    have r1 : Rel K N ⟨v, L :: ρ1.h, ρ1.k⟩ S H' := r.same k1
    have st1 : Step ρ1 H1 ⟨v, ρ1.h, ρ1.k⟩ H' := st.trans (Step.ext k1)
    have e1 : H' L = some (.lst accV) := k1 _ _ eL
    have ra1 : RepL K ⟨v, L :: ρ1.h, ρ1.k⟩ H' accD accV := RepL.keep r (Step.ext k1) _ _ ra
    have f1 : Fr K N env S ⟨v, L :: ρ1.h, ρ1.k⟩ σ H' := ⟨r1, fr.len, fun j d' e => let ⟨u, h1, h2⟩ := fr.get j d' e; ⟨u, h1, VRep.kw fr.rel (sx st1 nL) h2⟩⟩
    refine hg _ _ _ _ ?_
    have h' : PostE K N W ρ1 σ H1 (match bindP pt d (wipeE vs env) with
      | none => .stuck
      | some e => match tc e S with
        | .ok false S1 => goLc vs pt tc me env (ds.drop (i + 1)) accD S1
        | .ok true S1 => match me e S1 with
          | .ok y S2 => if Nat.blt accD.length 10000000 then goLc vs pt tc me env (ds.drop (i + 1)) (accD ++ [y]) S2 else .stuck
          | _ => .stuck
        | _ => .stuck) Q := h
    cases hbp : bindP pt d (wipeE vs env) with
    | none => rw [hbp] at h'; exact h'.elim
    | some e2 =>
      rw [hbp] at h'
      refine ⟨d, wipeE vs env, S, ⟨v, L :: ρ1.h, ρ1.k⟩, e2, f1.wipe vs, p1, hbp, fun σ2 f2 w2 => ⟨(w2 vs hsl).trans wipe_wipe, ht _ _ _ ⟨e2, S, _, f2, ?_⟩⟩⟩
      have h2 : PostE K N W ρ1 σ H1 (match tc e2 S with
        | .ok false S1 => goLc vs pt tc me env (ds.drop (i + 1)) accD S1
        | .ok true S1 => match me e2 S1 with
          | .ok y S2 => if Nat.blt accD.length 10000000 then goLc vs pt tc me env (ds.drop (i + 1)) (accD ++ [y]) S2 else .stuck
          | _ => .stuck
        | _ => .stuck) Q := h'
      cases htc : tc e2 S with
      | exc c as S3 => rw [htc] at h2; exact h2.elim
      | stuck => rw [htc] at h2; exact h2.elim
      | ok b S3 =>
        rw [htc] at h2
        intro ρ3 H3 st3 r3
        obtain ⟨v3, h3, k3⟩ := ρ3
        have eh : h3 = L :: ρ1.h := st3.hid
        subst eh
        have ek : k3 = ρ1.k := st3.lk
        subst ek
        have nL3 : L ∉ v3 := (r3.hh L List.mem_cons_self).2
        have e3 : H3 L = some (.lst accV) := st3.keep _ _ e1 nL
        have ra3 := RepL.keep r1 st3 _ _ ra1
        have st13 : Step ρ1 H1 ⟨v3, ρ1.h, ρ1.k⟩ H3 := st1.trans ⟨st3.pre, rfl, rfl, st3.keep, st3.new⟩
        cases b with
        | false =>
          rw [if_neg Bool.false_ne_true]
          exact ⟨S3, v3, accD, accV, r3, st13, nL3, e3, ra3, h2⟩
        | true =>
          rw [if_pos rfl]
          refine he _ _ _ ⟨e2, S3, ⟨v3, L :: ρ1.h, ρ1.k⟩, f2.step st3 r3, ?_⟩
          have h4 : PostE K N W ρ1 σ H1 (match me e2 S3 with
            | .ok y S2 => if Nat.blt accD.length 10000000 then goLc vs pt tc me env (ds.drop (i + 1)) (accD ++ [y]) S2 else .stuck
            | _ => .stuck) Q := h2
          cases hme : me e2 S3 with
          | exc c as S4 => rw [hme] at h4; exact h4.elim
          | stuck => rw [hme] at h4; exact h4.elim
          | ok z S4 =>
            rw [hme] at h4
            intro ρ4 u H4 st4 r4 p4
            obtain ⟨v4, h5, k5⟩ := ρ4
            have eh : h5 = L :: ρ1.h := st4.hid
            subst eh
            have ek : k5 = ρ1.k := st4.lk
            subst ek
            have nL4 : L ∉ v4 := (r4.hh L List.mem_cons_self).2
            have e4 : H4 L = some (.lst accV) := st4.keep _ _ e3 nL3
            have ra4 := RepL.keep r3 st4 _ _ ra3
            have st14 : Step ρ1 H1 ⟨v4, ρ1.h, ρ1.k⟩ H4 := st13.trans ⟨st4.pre, rfl, rfl, st4.keep, st4.new⟩
            have h6 : PostE K N W ρ1 σ H1 (if Nat.blt accD.length 10000000 then goLc vs pt tc me env (ds.drop (i + 1)) (accD ++ [z]) S4 else .stuck) Q := h4
            by_cases hz : Nat.blt accD.length 10000000 = true
            · rw [if_pos hz] at h6
              have hz' : accD.length < 10000000 := Nat.le_of_ble_eq_true hz
              have hm : L ∈ (⟨v4, L :: ρ1.h, ρ1.k⟩ : Pl).h := List.mem_cons_self
              refine ⟨accV, e4, by rw [RepL.length ra4]; exact Nat.lt_trans hz' (by decide), S4, v4, accD ++ [z], accV ++ [u], r4.inside hm (fun _ _ z => by rw [e4] at z; cases z) (.inl ⟨_, rfl⟩), ?_, nL4, upd_same, RepL.kw r4 (Stp.inside hm) _ _ (RepL.snoc p4 ra4), h6⟩
              exact ⟨st14.pre, rfl, rfl, fun a o e n => by rw [upd_ne (ne_of_none e hL)]; exact st14.keep a o e n, st14.new⟩
            · rw [if_neg hz] at h6; exact h6.elim
  · have e : i = ds.length := by omega
    subst e
    rw [List.drop_length] at h
    refine .inl ⟨hw.stop _ _ S H (by simp) (sx st nL) r, ?_⟩
    have h' : PostE K N W ρ1 σ H1 (.ok (.lst accD) S) Q := h
    exact h' ⟨v, ρ1.h, ρ1.k⟩ (.ref L) H st r0 ⟨L, accV, rfl, ⟨nL, fun z => (fr.rel.hh L z).1.ne hL⟩, eL, RepL.kw r Stp.show _ _ ra⟩
theorem g_lc (hc : X.calm = true) (hN : X.N.Nodup) (hi : GI N X W tg it mi) (ok : BlkOk X.N X.env.scope scope own) (hsl : ∀ i ∈ pt.slots, i ∈ own.map (·.2))
    (hg : ∀ (s : Shared) (H : Hp) (C : Addr) (cl : List (Str × Addr)) (fp : List Addr), GP N (X.blk s H scope (compEnvC scope cl C X.env) fp) tg pt) (ht : ∀ (s : Shared) (H : Hp) (C : Addr) (cl : List (Str × Addr)) (fp : List Addr), PTs (X.blk s H scope (compEnvC scope cl C X.env) fp) ifs (tB_ X.K N WF tc))
    (he : ∀ (s : Shared) (H : Hp) (C : Addr) (cl : List (Str × Addr)) (fp : List Addr), GE N (X.blk s H scope (compEnvC scope cl C X.env) fp) WF elt me) (hs : ∀ x, foldedSetIterable it X.env x = pure x := by intro _; rfl) :
    GE N X W (.ListComp elt [⟨tg, it, ifs, 0⟩] scope pos) (eLc (own.map (·.2)) pt mi tc me) :=
  PE.imp (pe_lc (g := tP X.K N pt) (tt := tB_ X.K N WF tc) (te := tE X.K N WF me) hc hN hi ok hg ht he hs) fun σ H Q ⟨env, S, ρ, fr, h⟩ => ⟨env, S, ρ, fr, by
    unfold eLc at h
    cases hmi : mi env S with
    | ok ds S1 =>
      rw [hmi] at h
      intro ρ1 J H1 st r1 hw L hL
      exact lc_go (fr.step st r1) hw hsl (fun _ _ _ _ q => q) (fun _ _ _ q => q) (fun _ _ _ q => q) (PostE.step st h) L hL
    | exc c as S1 => rw [hmi] at h; exact h
    | stuck => rw [hmi] at h; exact h⟩
theorem gs_setLc {i : Nat} {y : Str} {py spos : Pos} (hc : X.calm = true) (hN : X.N.Nodup) (hy : X.N[i]? = some y) (hyl : X.env.scope.names.lookup y = some .local) (hsw : swapsWith (.ListComp elt [⟨tg, it, ifs, 0⟩] scope pos) (some (.Name y py)) spos.line X.env = pure true)
    (hi : GI N X W tg it mi) (ok : BlkOk X.N X.env.scope scope own) (hsl : ∀ i ∈ pt.slots, i ∈ own.map (·.2))
    (hg : ∀ (s : Shared) (H : Hp) (C : Addr) (cl : List (Str × Addr)) (fp : List Addr), GP N (X.blk s H scope (compEnvC scope cl C X.env) fp) tg pt) (ht : ∀ (s : Shared) (H : Hp) (C : Addr) (cl : List (Str × Addr)) (fp : List Addr), PTs (X.blk s H scope (compEnvC scope cl C X.env) fp) ifs (tB_ X.K N WF tc))
    (he : ∀ (s : Shared) (H : Hp) (C : Addr) (cl : List (Str × Addr)) (fp : List Addr), GE N (X.blk s H scope (compEnvC scope cl C X.env) fp) WF elt me) (hs : ∀ x, foldedSetIterable it X.env x = pure x := by intro _; rfl) :
    GS N X W (.Assign [.Name y py] (.ListComp elt [⟨tg, it, ifs, 0⟩] scope pos) spos) (sSet (.nm i) (eLc (own.map (·.2)) pt mi tc me)) :=
  PS.imp (ps_setLc (g := tP X.K N pt) (tt := tB_ X.K N WF tc) (te := tE X.K N WF me) hc hN hy hyl hsw hi ok hg ht he hs) fun E σ H ⟨env, S, ρ, fr, h⟩ => ⟨env, S, ρ, fr, by
    have h0 : PostO X.K N W ρ H ((eLc (own.map (·.2)) pt mi tc me env S).st env fun d S1 => match bindP (.nm i) d env with | some e => .nx e S1 | none => .stuck) E := h
    have hq : PostE X.K N W ρ σ H (eLc (own.map (·.2)) pt mi tc me env S) (fun x H1 => gName i x σ H1 E.nx) := PostO.E fr h0 fun d S1 ρ1 v H1 st r1 p1 h1 => by
      have h2 : PostO X.K N W ρ1 H1 (.nx (env.set i (some d)) S1) E := h1
      exact PostO.nextE ((fr.step st r1).set p1) h2
    unfold eLc at hq
    cases hmi : mi env S with
    | ok ds S1 =>
      rw [hmi] at hq
      intro ρ1 J H1 st r1 hw L hL
      exact lc_go (fr.step st r1) hw hsl (fun _ _ _ _ q => q) (fun _ _ _ q => q) (fun _ _ _ q => q) (PostE.step st hq) L hL
    | exc c as S1 => rw [hmi] at hq; exact hq
    | stuck => rw [hmi] at hq; exact hq⟩
end
end G
end

section
set_option Elab.async false
set_option linter.all false
set_option maxRecDepth 100000
set_option maxHeartbeats 4000000
/-! G6: defs by their bodies; operators; built-ins. By an AI agent. -/
namespace G
open PySem PySem.Spec PyProof.Rows L2
variable [Cold]
/-! ### defs -/
section
variable {P : Program} {w : World} {K : PySem.W.Frag} {mg : Str → Option Value} {base : Heap} {N : Nm} {x qual : Str} {params : Arguments} {body : List Stmt} {scope : Scope} {f : Addr} {fd : FuncData} {Ns ps : List Str} {k n : Nat} {ms : SM}
/-- the body's judgement, at each entry -/
def BodyOk (P : Program) (w : World) (K : PySem.W.Frag) (mg : Str → Option Value) (base : Heap) (N : Nm) (k : Nat) (Ns : List Str) (qual : Str) (scope : Scope) (f : Addr) (body : List Stmt) (ms : SM) : Prop :=
  ∀ (cdv : Value) (A : Around) (outer : List PySem.Env) (s : Shared) (H : Hp) (E : XK), Room k (A.deeper (envOfC qual scope s.heap.objs.size f cdv)) →
    Takes (cxOf (L2.CX P w) P w K mg base Ns qual scope f cdv A outer s H E) (fun c d _ H' => E c d H') →
    PassesOwn (model P w) (A.deeper (envOfC qual scope s.heap.objs.size f cdv)) (envOfC qual scope s.heap.objs.size f cdv) (cxOf (L2.CX P w) P w K mg base Ns qual scope f cdv A outer s H E).xe →
    GSs N (cxOf (L2.CX P w) P w K mg base Ns qual scope f cdv A outer s H E) (fun c d _ H' => E c d H') body ms
theorem Fr.start {ds : List D} {S : Store} {ρ : Pl} {H : Hp} {vs : List V} (r : Rel K N ρ S H) (h : RepL K ρ H ds vs) : Fr K N (envOf Ns.length ds) S ρ (L2.start Ns vs) H := by
  have hl := RepL.length h
  refine ⟨r, by simp [envOf, L2.start, hl], fun i d e => ?_⟩
  unfold envOf at e
  by_cases hi : i < ds.length
  · rw [List.getElem?_append_left (by simpa using hi), List.getElem?_map] at e
    cases q : ds[i]? with
    | none => rw [q] at e; cases e
    | some d' =>
      rw [q] at e
      have : d' = d := by simpa using e
      subst this
      obtain ⟨v, h1, h2⟩ := (RepL.at (i := i) h).1 d' q
      refine ⟨v, ?_, VRep.of h2⟩
      unfold L2.start
      rw [List.getElem?_append_left (by simp; omega), List.getElem?_map, h1]
      rfl
  · rw [List.getElem?_append_right (by simpa using hi), List.getElem?_replicate] at e
    split at e <;> cases e
theorem PostO.fin {o : O} {S : Store} {ρ : Pl} {H : Hp} {Q : VK} {E : XK} (h : PostE K N (fun c oe _ H' => E c oe H') ρ [] H (ofO2 o) Q) : PostO K N (fun c oe _ H' => E c oe H') ρ H o { nx := fun _ H' => Q .non H', rt := Q } := by
  cases o with
  | nx e S1 => exact fun ρ1 σ1 H1 st f => h ρ1 .non H1 st f.rel rfl
  | rt d S1 => exact h
  | bk e S1 => exact h.elim
  | ct e S1 => exact h.elim
  | exc c as e S1 => exact fun ρ1 σ1 oe H1 st f x => h ρ1 oe H1 st f.rel x
  | stuck => exact h.elim
theorem gf_R (F : FunD K x qual params body scope [] [] f fd) (Sc : FnScope Ns ps scope) (hb : BodyOk P w K mg base N k Ns qual scope f body ms) : GF P w K mg base N (k + 1) f fd ps (fnR ps.length Ns.length ms) := by
  refine F.ok Sc (fun vs H Q E h => ?_) (fun cdv A outer s H vs Q E hr h => ?_)
  · obtain ⟨ds, S, ρ, r, rp, hl, _⟩ := h
    rw [RepL.length rp, hl]
  · obtain ⟨ds, S, ρ, r, rp, hl, hq⟩ := h
    refine ⟨_, hb cdv A outer s H E hr (takes_of rfl rfl rfl rfl) (passes_of rfl), envOf Ns.length ds, S, ρ, Fr.start r rp, ?_⟩
    have hq' : PostE K N (fun c oe _ H' => E c oe H') ρ [] H (fnR ps.length Ns.length ms ds S) Q := hq
    unfold fnR at hq'
    rw [show (ds.length == ps.length) = true by simp [hl]] at hq'
    exact PostO.fin (S := S) hq'
mutual
theorem Rep.nr {ρ ρ' : Pl} {H : Hp} (hh : ∀ a, a ∈ ρ'.v ∨ a ∈ ρ'.h → a ∈ ρ.v ∨ a ∈ ρ.h) : ∀ (d : D) (v : V), d.nr = true → Rep K ρ H d v → Rep K ρ' H d v
  | .non, _, _, h => h
  | .bl _, _, _, h => h
  | .int _, _, _, h => h
  | .str _, _, _, h => h
  | .tup ds, v, n, h => by
    obtain ⟨p, vs, e, t, q⟩ := h
    exact ⟨p, vs, e, t, RepL.nr hh ds vs (by simpa [D.nr] using n) q⟩
  | .lst ds, v, n, h => by
    obtain ⟨p, vs, e, m, t, q⟩ := h
    refine ⟨p, vs, e, ⟨fun z => ?_, fun z => ?_⟩, t, RepL.nr hh ds vs (by simpa [D.nr] using n) q⟩
    · exact (hh p (.inl z)).elim m.1 m.2
    · exact (hh p (.inr z)).elim m.1 m.2
  | .ref n, v, m, h => by simp [D.nr] at m
  | .err, v, m, h => by simp [D.nr] at m
  | .scr xs, v, n, h => h
  | .dct ks ds, v, n, h => by
    obtain ⟨a, o, keys, vs, e, m, q, hk, hl, hr⟩ := h
    refine ⟨a, o, keys, vs, e, ⟨fun z => ?_, fun z => ?_⟩, q, hk, hl, RepL.nr hh ds vs (by simpa [D.nr] using n) hr⟩
    · exact (hh a (.inl z)).elim m.1 m.2
    · exact (hh a (.inr z)).elim m.1 m.2
theorem RepL.nr {ρ ρ' : Pl} {H : Hp} (hh : ∀ a, a ∈ ρ'.v ∨ a ∈ ρ'.h → a ∈ ρ.v ∨ a ∈ ρ.h) : ∀ (ds : List D) (vs : List V), nrL ds = true → RepL K ρ H ds vs → RepL K ρ' H ds vs
  | [], _, _, h => h
  | d :: ds, vs, n, h => by
    obtain ⟨v, q, e, h1, h2⟩ := h
    obtain ⟨n1, n2⟩ := Bool.and_eq_true_iff.mp (show (d.nr && nrL ds) = true by simpa [nrL] using n)
    exact ⟨v, q, e, Rep.nr hh d v n1 h1, RepL.nr hh ds q n2 h2⟩
end
/-- the caller's objects are out of sight -/
def Pl.away (ρ : Pl) : Pl := ⟨[], ρ.v ++ ρ.h, ρ.k⟩
theorem Rel.away {S : Store} {ρ : Pl} {H : Hp} (r : Rel K N ρ S H) : Rel K N ρ.away [] H := by
  refine ⟨rfl, List.nodup_nil, fun a ha => ⟨?_, by simp [Pl.away]⟩, r.lk, fun n so e => by simp at e, fun a o q e => let ⟨h1, h2, h3⟩ := r.cst a o q e; ⟨h1, by simp [Pl.away], by simp [Pl.away, h2, h3]⟩⟩
  rcases List.mem_append.mp ha with h | h
  · exact r.mem h
  · exact (r.hh a h).1
theorem away_back {S : Store} {ρ ρ' : Pl} {H H' : Hp} (r : Rel K N ρ S H) (st : Step ρ.away H ρ' H') : Step ρ H ρ H' ∧ Rel K N ρ S H' ∧ (∀ a, a ∈ ρ.v ∨ a ∈ ρ.h → a ∈ ρ'.v ∨ a ∈ ρ'.h) :=
  ⟨Step.ext fun a o e => st.keep a o e (by simp [Pl.away]), r.same fun a o e => st.keep a o e (by simp [Pl.away]), fun a ha => .inr (by rw [st.hid]; exact List.mem_append.mpr ha)⟩
theorem XRep.nr {ρ ρ' : Pl} {H : Hp} {c : Nat} {as : List D} {oe : Option Addr} (hh : ∀ a, a ∈ ρ'.v ∨ a ∈ ρ'.h → a ∈ ρ.v ∨ a ∈ ρ.h) (n : nrL as = true) (h : XRep K N ρ H c as oe) : XRep K N ρ' H c as oe := by
  rcases h with h | ⟨ne, d, vs, e, q, hd⟩
  · exact .inl h
  · exact .inr ⟨ne, d, vs, e, RepL.nr hh _ _ n q, hd⟩
theorem gf_P (F : FunD K x qual params body scope [] [] f fd) (Sc : FnScope Ns ps scope) (hb : BodyOk P w K mg base N k Ns qual scope f body ms) : GF P w K mg base N (k + 1) f fd ps (fnP ps.length Ns.length ms) := by
  refine F.ok Sc (fun vs H Q E h => ?_) (fun cdv A outer s H vs Q E hr h => ?_)
  · obtain ⟨ds, S, ρ, r, rp, hl, _⟩ := h
    rw [RepL.length rp, hl]
  · obtain ⟨ds, S, ρ, r, rp, hl, hq⟩ := h
    have hq' : PostE K N (fun c oe _ H' => E c oe H') ρ [] H (fnP ps.length Ns.length ms ds S) Q := hq
    unfold fnP at hq'
    rw [show (ds.length == ps.length) = true by simp [hl], Bool.true_and] at hq'
    cases hn : nrL ds with
    | false => rw [hn] at hq'; exact hq'.elim
    | true =>
      rw [hn] at hq'
      have hq2 : PostE K N (fun c oe _ H' => E c oe H') ρ [] H (pureR S (ofO2 (ms (envOf Ns.length ds) []))) Q := hq'
      have rp' : RepL K ρ.away H ds vs := RepL.nr (fun a ha => by
        rcases ha with h | h
        · simp [Pl.away] at h
        · exact List.mem_append.mp h) ds vs hn rp
      refine ⟨_, hb cdv A outer s H E hr (takes_of rfl rfl rfl rfl) (passes_of rfl), envOf Ns.length ds, [], ρ.away, Fr.start r.away rp', PostO.fin (S := []) ?_⟩
      cases ho : ofO2 (ms (envOf Ns.length ds) []) with
      | stuck => rw [ho] at hq2; exact hq2.elim
      | exc c as S1 =>
        rw [ho] at hq2
        have hq3 : PostE K N (fun c oe _ H' => E c oe H') ρ [] H (if nrL as then .exc c as S else .stuck) Q := hq2
        by_cases ha : nrL as = true
        · rw [if_pos ha] at hq3
          intro ρ' oe H' st r' xr
          obtain ⟨a1, a2, a3⟩ := away_back r st
          exact hq3 ρ oe H' a1 a2 (xr.nr a3 ha)
        · rw [if_neg ha] at hq3; exact hq3.elim
      | ok d S1 =>
        rw [ho] at hq2
        obtain ⟨d', hf, hq3⟩ := PostE.ofO (show PostE K N (fun c oe _ H' => E c oe H') ρ [] H (ofO (freeze S1 d) S) Q from hq2)
        intro ρ' v H' st r' rv
        obtain ⟨a1, a2, a3⟩ := away_back r st
        refine hq3 ρ v H' a1 a2 ?_
        have plain : ∀ d : D, d.nr = true → Rep K ρ' H' d v → Rep K ρ H' d v := fun d n h => Rep.nr a3 d v n h
        cases d with
        | ref j =>
          obtain ⟨a, ev, ea⟩ := rv
          unfold freeze at hf
          dsimp only at hf
          cases hj : S1[j]? with
          | none => rw [hj] at hf; cases hf
          | some so =>
            rw [hj] at hf
            cases so with
            | lst xs =>
              dsimp only at hf
              by_cases hx : nrL xs = true
              · rw [if_pos hx] at hf
                cases hf
                obtain ⟨a', h1, vs', h2, h3⟩ := r'.at_ j _ hj
                rw [ea] at h1; cases h1
                have am : a ∈ ρ'.v := List.mem_of_getElem? ea
                have an : H a = none := (st.new a am).resolve_left (by simp [Pl.away])
                exact ⟨a, vs', ev, ⟨fun z => r.not_none z an, fun z => (r.hh a z).1.ne an⟩, h2, RepL.nr a3 _ _ hx h3⟩
              · rw [if_neg hx] at hf; cases hf
            | _ => cases hf
        | _ =>
          unfold freeze at hf
          dsimp only at hf
          split at hf
          · rename_i hz
            cases hf
            exact plain _ hz rv
          · cases hf
end
end G
end

section
set_option Elab.async false
set_option linter.all false
set_option maxRecDepth 100000
set_option maxHeartbeats 4000000
/-! G7: operators. By an AI agent. -/
namespace G
open PySem PySem.Spec PyProof.Rows L2
variable [Cold]
section
variable {N : Nm} {X : Cx}
/-- an operator by an answer that needs no new object -/
theorem OpG.or {r r' : R2} {f : Store → D → D → Option D} (h : ∀ (S : Store) (ρ : Pl) (H : Hp) (x y d : D) (u v : V) (Q : VK), Rel X.K N ρ S H → Rep X.K ρ H x u → Rep X.K ρ H y v → f S x y = some d → (∀ (ρ' : Pl) (z : V) (H' : Hp), Step ρ H ρ' H' → Rel X.K N ρ' S H' → Rep X.K ρ' H' d z → Q z H') → r u v H Q ∨ r' u v H Q) : OpG N X (fun x y H Q => r x y H Q ∨ r' x y H Q) f :=
  fun S ρ H x y d u v Q R rx ry e q => h S ρ H x y d u v Q R rx ry e q
theorem and_some {α : Type} {a b : Option α} {c : α} (h : (if b.isSome then a else none) = some c) : a = some c := by
  split at h
  · exact h
  · cases h
theorem g_sub : OpG N X (rI0 fun i j => .int (i - j)) bSub := by
  intro S ρ H x y d u v Q R rx ry e q
  cases x <;> first | (cases e; done) | skip
  cases y <;> first | (cases e; done) | skip
  cases e
  exact ⟨_, _, rx, ry, q ρ _ H (Step.refl _ _) R rfl⟩
theorem g_div : OpG N X (rI CDiv fun i j => .int (i / j)) bDiv := by
  intro S ρ H x y d u v Q R rx ry e q
  cases x <;> first | (cases e; done) | skip
  cases y <;> first | (cases e; done) | skip
  unfold bDiv at e
  dsimp only at e
  split at e
  · rename_i hc
    cases e
    exact ⟨_, _, rx, ry, hc, q ρ _ H (Step.refl _ _) R rfl⟩
  · cases e
theorem g_mod : OpG N X (rI (fun _ j => 0 < j) fun i j => .int (i % j)) bMod := by
  intro S ρ H x y d u v Q R rx ry e q
  cases x <;> first | (cases e; done) | skip
  cases y <;> first | (cases e; done) | skip
  unfold bMod at e
  dsimp only at e
  split at e
  · rename_i hc
    cases e
    exact ⟨_, _, rx, ry, hc, q ρ _ H (Step.refl _ _) R rfl⟩
  · cases e

/-! ### what a value reads as -/
theorem rd_not {S : Store} {x d : D} (e : rd S x = d) (h : ∀ xs, d ≠ .lst xs) (h2 : ∀ n, d ≠ .ref n) : x = d := by
  cases x with
  | ref n =>
    unfold rd at e
    dsimp only at e
    split at e
    · exact absurd e.symm (h _)
    · exact absurd e.symm (h2 _)
  | _ => exact e
theorem rd_int {S : Store} {x : D} {i : Int} (e : rd S x = .int i) : x = .int i := rd_not e (fun _ z => nomatch z) (fun _ z => nomatch z)
theorem rd_str {S : Store} {x : D} {i : List Nat} (e : rd S x = .str i) : x = .str i := rd_not e (fun _ z => nomatch z) (fun _ z => nomatch z)
theorem rd_tup {S : Store} {x : D} {i : List D} (e : rd S x = .tup i) : x = .tup i := rd_not e (fun _ z => nomatch z) (fun _ z => nomatch z)
theorem rd_bl {S : Store} {x : D} {i : Bool} (e : rd S x = .bl i) : x = .bl i := rd_not e (fun _ z => nomatch z) (fun _ z => nomatch z)
theorem rd_non {S : Store} {x : D} (e : rd S x = .non) : x = .non := rd_not e (fun _ z => nomatch z) (fun _ z => nomatch z)
theorem rd_scr {S : Store} {x : D} {i : List Int} (e : rd S x = .scr i) : x = .scr i := rd_not e (fun _ z => nomatch z) (fun _ z => nomatch z)
section
variable {K : PySem.W.Frag} {ρ : Pl} {S : Store} {H : Hp}
theorem rd_lst {x : D} {u : V} {xs : List D} (R : Rel K N ρ S H) (h : Rep K ρ H x u) (e : rd S x = .lst xs) : ∃ a vs, u = .ref a ∧ H a = some (.lst vs) ∧ RepL K ρ H xs vs := by
  cases x with
  | ref n =>
    unfold rd at e
    dsimp only at e
    cases hj : S[n]? with
    | none => rw [hj] at e; cases e
    | some so =>
      rw [hj] at e
      cases so with
      | lst ys =>
        cases e
        obtain ⟨a, ev, ea⟩ := h
        obtain ⟨a', h1, vs, h2, h3⟩ := R.at_ n _ hj
        rw [ea] at h1; cases h1
        exact ⟨a, vs, ev, h2, h3⟩
      | _ => cases e
  | lst ys =>
    cases (show D.lst ys = .lst xs from e)
    obtain ⟨p, vs, ev, _, hp, q⟩ := h
    exact ⟨p, vs, ev, hp, q⟩
  | _ => cases e
/-! ### data as PyData -/
mutual
def toPy : D → PyData
  | .non => .none
  | .bl b => .bool b
  | .int i => .int i
  | .str x => .str ⟨x.toArray⟩
  | .tup xs => .tuple (toPyL xs)
  | .lst xs => .list (toPyL xs)
  | .ref _ => .none
  | .scr _ => .none
  | .dct _ _ => .none
  | .err => .none
def toPyL : List D → List PyData
  | [] => []
  | x :: r => toPy x :: toPyL r
end
theorem RepL.dpAll {n : Nat} (ih : ∀ d v, D.pl n d = true → Rep K ρ H d v → Dp K H v (toPy d)) : ∀ (ds : List D) (vs : List V), ds.all (D.pl n) = true → RepL K ρ H ds vs → DpAll K H vs (toPyL ds)
  | [], vs, _, h => by rw [show vs = [] from h]; exact .nil
  | d :: ds, vs, hn, h => by
    obtain ⟨v, r, rfl, h1, h2⟩ := h
    rw [List.all_cons, Bool.and_eq_true] at hn
    exact .cons (ih d v hn.1 h1) (RepL.dpAll ih ds r hn.2 h2)
theorem Rep.dp : ∀ (n : Nat) (d : D) (v : V), D.pl n d = true → Rep K ρ H d v → Dp K H v (toPy d) := by
  intro n
  induction n with
  | zero =>
    intro d v hn h
    cases d with
    | non => rw [show v = .non from h]; exact .non
    | bl b => rw [show v = .bl b from h]; exact .bl b
    | int b => rw [show v = .int b from h]; exact .int b
    | str b => rw [show v = .str _ from h]; exact .str _
    | _ => cases hn
  | succ n ih =>
    intro d v hn h
    cases d with
    | non => rw [show v = .non from h]; exact .non
    | bl b => rw [show v = .bl b from h]; exact .bl b
    | int b => rw [show v = .int b from h]; exact .int b
    | str b => rw [show v = .str _ from h]; exact .str _
    | tup xs =>
      obtain ⟨p, vs, rfl, t, q⟩ := h
      exact .tup t.1 (RepL.dpAll ih xs vs hn q)
    | lst xs =>
      obtain ⟨p, vs, rfl, _, t, q⟩ := h
      exact .lst (SqL.of t) (RepL.dpAll ih xs vs hn q)
    | _ => cases hn
theorem pl_shape : ∀ (n : Nat) (d : D), D.pl n d = true → (toPy d).canLay0 = true ∧ (toPy d).depth ≤ n := by
  intro n
  induction n with
  | zero =>
    intro d hn
    cases d with
    | str b =>
      refine ⟨?_, Nat.le_refl _⟩
      show PyData.strOk _ = true
      unfold PyData.strOk
      rw [List.all_toArray]
      rw [List.all_eq_true] at *
      intro c hc
      have := List.all_eq_true.mp (show (b.all fun c => Nat.blt c 128) = true from hn) c hc
      have h2 : c < 128 := by simpa [Nat.blt_eq] using this
      simp; omega
    | non => exact ⟨by simp [toPy, PyData.canLay0], Nat.le_refl _⟩
    | bl => exact ⟨by simp [toPy, PyData.canLay0], Nat.le_refl _⟩
    | int => exact ⟨by simp [toPy, PyData.canLay0], Nat.le_refl _⟩
    | _ => cases hn
  | succ n ih =>
    have all : ∀ ds : List D, ds.all (D.pl n) = true → PyData.canLayAll0 (toPyL ds) = true ∧ PyData.depthAll (toPyL ds) ≤ n := by
      intro ds
      induction ds with
      | nil => intro _; exact ⟨by simp [toPyL, PyData.canLayAll0], Nat.zero_le _⟩
      | cons d ds ih2 =>
        intro hn
        rw [List.all_cons, Bool.and_eq_true] at hn
        obtain ⟨a1, a2⟩ := ih d hn.1
        obtain ⟨b1, b2⟩ := ih2 hn.2
        exact ⟨by simp [toPyL, PyData.canLayAll0, a1, b1], by simp [toPyL, PyData.depthAll]; omega⟩
    intro d hn
    cases d with
    | str b =>
      refine ⟨?_, Nat.zero_le _⟩
      show PyData.strOk _ = true
      unfold PyData.strOk
      rw [List.all_toArray]
      rw [List.all_eq_true] at *
      intro c hc
      have := List.all_eq_true.mp (show (b.all fun c => Nat.blt c 128) = true from hn) c hc
      have h2 : c < 128 := by simpa [Nat.blt_eq] using this
      simp; omega
    | non => exact ⟨by simp [toPy, PyData.canLay0], Nat.zero_le _⟩
    | bl => exact ⟨by simp [toPy, PyData.canLay0], Nat.zero_le _⟩
    | int => exact ⟨by simp [toPy, PyData.canLay0], Nat.zero_le _⟩
    | tup xs =>
      obtain ⟨a1, a2⟩ := all xs hn
      exact ⟨by simp [toPy, PyData.canLay0, a1], by simp [toPy, PyData.depth]; omega⟩
    | lst xs =>
      obtain ⟨a1, a2⟩ := all xs hn
      exact ⟨by simp [toPy, PyData.canLay0, a1], by simp [toPy, PyData.depth]; omega⟩
    | _ => cases hn
theorem pl_shaped {d : D} (h : D.pl deep d = true) : SeqAt.shaped (toPy d) = true := by
  obtain ⟨a, b⟩ := pl_shape _ _ h
  unfold SeqAt.shaped
  rw [a, Bool.true_and]
  exact decide_eq_true (Nat.le_trans b (by decide))
theorem str_beq (x y : List Nat) : ((⟨x.toArray⟩ : Str) == ⟨y.toArray⟩) = (x == y) := by
  rw [Bool.eq_iff_iff]
  simp
mutual
theorem eqv_py : ∀ (n : Nat) (x y : D), D.pl n x = true → D.pl n y = true → PyData.eqv (toPy x) (toPy y) = D.eqv x y
  | n, .non, y, _, hy => by cases n <;> cases y <;> first | (cases hy; done) | simp [toPy, PyData.eqv, D.eqv]
  | n, .bl b, y, _, hy => by
    cases n <;> cases y <;> first | (cases hy; done) | (simp [toPy, PyData.eqv, D.eqv]; done) | (simp only [toPy, PyData.eqv, D.eqv]; rw [Bool.eq_iff_iff]; simp)
  | n, .int i, y, _, hy => by
    cases n <;> cases y <;> first | (cases hy; done) | (simp [toPy, PyData.eqv, D.eqv]; done) | (simp only [toPy, PyData.eqv, D.eqv]; rw [Bool.eq_iff_iff]; simp)
  | n, .str x, y, _, hy => by
    cases n <;> cases y <;> first | (cases hy; done) | (simp only [toPy, PyData.eqv, D.eqv]; exact str_beq _ _) | simp [toPy, PyData.eqv, D.eqv]
  | 0, .tup xs, y, hx, hy => by cases hx
  | 0, .lst xs, y, hx, hy => by cases hx
  | n + 1, .tup xs, y, hx, hy => by
    cases y with
    | tup ys => simp only [toPy, PyData.eqv, D.eqv]; exact eqv_pyL n xs ys hx hy
    | _ => first | (cases hy; done) | simp [toPy, PyData.eqv, D.eqv]
  | n + 1, .lst xs, y, hx, hy => by
    cases y with
    | lst ys => simp only [toPy, PyData.eqv, D.eqv]; exact eqv_pyL n xs ys hx hy
    | _ => first | (cases hy; done) | simp [toPy, PyData.eqv, D.eqv]
  | 0, .ref m, y, hx, hy => by cases hx
  | _ + 1, .ref m, y, hx, hy => by cases hx
  | 0, .scr m, y, hx, hy => by cases hx
  | _ + 1, .scr m, y, hx, hy => by cases hx
  | 0, .dct _ _, y, hx, hy => by cases hx
  | 0, .err, y, hx, hy => by cases hx
  | _ + 1, .dct _ _, y, hx, hy => by cases hx
  | _ + 1, .err, y, hx, hy => by cases hx
theorem eqv_pyL : ∀ (n : Nat) (xs ys : List D), xs.all (D.pl n) = true → ys.all (D.pl n) = true → PyData.eqvAll (toPyL xs) (toPyL ys) = eqvL xs ys
  | n, [], [], _, _ => by simp [toPyL, PyData.eqvAll, eqvL]
  | n, [], _ :: _, _, _ => by simp [toPyL, PyData.eqvAll, eqvL]
  | n, _ :: _, [], _, _ => by simp [toPyL, PyData.eqvAll, eqvL]
  | n, x :: xs, y :: ys, hx, hy => by
    rw [List.all_cons, Bool.and_eq_true] at hx hy
    simp only [toPyL, PyData.eqvAll, eqvL]
    rw [eqv_py n x y hx.1 hy.1, eqv_pyL n xs ys hx.2 hy.2]
end
/-- a value that reads as data -/
theorem rd_dp {x : D} {u : V} (R : Rel K N ρ S H) (h : Rep K ρ H x u) (hp : (rd S x).pl deep = true) : Dp K H u (toPy (rd S x)) := by
  by_cases hx : ∃ xs, rd S x = .lst xs
  · obtain ⟨xs, e⟩ := hx
    obtain ⟨a, vs, rfl, h1, h2⟩ := rd_lst R h e
    rw [e] at hp ⊢
    exact .lst (SqL.of h1) (RepL.dpAll (Rep.dp 19) xs vs hp h2)
  · have hr : ∀ n, rd S x ≠ .ref n := fun n z => by rw [z] at hp; cases hp
    have e : x = rd S x := rd_not rfl (fun xs z => hx ⟨xs, z⟩) hr
    rw [← e] at hp ⊢
    exact Rep.dp deep x u hp h
end
theorem dEq_some {S : Store} {x y : D} {b : Bool} (e : dEq S x y = some b) : (rd S x).pl deep = true ∧ (rd S y).pl deep = true ∧ b = (rd S x).eqv (rd S y) := by
  unfold dEq at e
  split at e
  · rename_i h
    cases e
    exact ⟨(Bool.and_eq_true_iff.mp h).1, (Bool.and_eq_true_iff.mp h).2, rfl⟩
  · cases e
theorem g_eq : OpG N X (rEqD X.K) bEq := by
  intro S ρ H x y d u v Q R rx ry e q
  unfold bEq toB at e
  cases hb : dEq S x y with
  | none => rw [hb] at e; cases e
  | some b =>
    rw [hb] at e
    obtain ⟨h1, h2, h3⟩ := dEq_some hb
    refine ⟨_, _, rd_dp R rx h1, rd_dp R ry h2, pl_shaped h1, pl_shaped h2, ?_⟩
    rw [eqv_py deep _ _ h1 h2, ← h3]
    cases e
    exact q ρ _ H (Step.refl _ _) R rfl
theorem g_ne : OpG N X (rNeD X.K) bNe := by
  intro S ρ H x y d u v Q R rx ry e q
  unfold bNe at e
  cases hb : dEq S x y with
  | none => rw [hb] at e; cases e
  | some b =>
    rw [hb] at e
    obtain ⟨h1, h2, h3⟩ := dEq_some hb
    refine ⟨_, _, rd_dp R rx h1, rd_dp R ry h2, pl_shaped h1, pl_shaped h2, ?_⟩
    rw [eqv_py deep _ _ h1 h2, ← h3]
    cases e
    exact q ρ _ H (Step.refl _ _) R rfl
end
end G
end

section
set_option Elab.async false
set_option linter.all false
set_option maxRecDepth 100000
set_option maxHeartbeats 4000000
/-! G8: +, *, <, in. By an AI agent. -/
namespace G
open PySem PySem.Spec PyProof.Rows L2
variable [Cold]
section
variable {N : Nm} {X : Cx}
theorem tup_newT {K : PySem.W.Frag} {ρ : Pl} {S : Store} {H : Hp} {ds : List D} {vs : List V} {p : Addr} (r : Rel K N ρ S H) (h : RepL K ρ H ds vs) (hp : H p = none) :
    Step ρ H ρ (upd H p (.tup vs)) ∧ Rel K N ρ S (upd H p (.tup vs)) ∧ Rep K ρ (upd H p (.tup vs)) (.tup ds) (.ref p) := tup_new r h hp
theorem RepL.app {K : PySem.W.Frag} {ρ : Pl} {H : Hp} : ∀ {xs ys : List D} {us vs : List V}, RepL K ρ H xs us → RepL K ρ H ys vs → RepL K ρ H (xs ++ ys) (us ++ vs)
  | [], ys, us, vs, h, h2 => by rw [show us = [] from h]; exact h2
  | x :: xs, ys, us, vs, h, h2 => by
    obtain ⟨v, r, rfl, h1, h3⟩ := h
    exact ⟨v, r ++ vs, rfl, h1, RepL.app h3 h2⟩
theorem RepL.nil_iff {K : PySem.W.Frag} {ρ : Pl} {H : Hp} {xs : List D} {us : List V} (h : RepL K ρ H xs us) : us = [] ↔ xs = [] := by
  have := RepL.length h
  constructor
  · intro z; subst z; exact List.length_eq_zero_iff.mp this.symm
  · intro z; subst z; exact h
theorem ble_line {n : Nat} (h : Nat.ble n 10000000 = true) : n ≤ sizeLine := Nat.le_trans (Nat.le_of_ble_eq_true h) (by decide)
abbrev rAdd (K : PySem.W.Frag) : R2 := fun x y H Q => rI0 (fun i j => .int (i + j)) x y H Q ∨ (∃ i j, x = .str i ∧ y = .str j ∧ i.length + j.length ≤ sizeLine ∧ Q (.str (i ++ j)) H) ∨ rCatA K x y H Q ∨ rCat x y H Q
theorem op_addG : OpR X (binaryOp .Add) (rAdd X.K) := op_add.or (op_add_str.or (op_catA.or op_cat))
theorem g_add : OpG N X (rAdd X.K) bAdd := by
  intro S ρ H x y d u v Q R rx ry e q
  unfold bAdd at e
  split at e
  · rename_i i j ex ey
    cases e
    rw [rd_int ex] at rx; rw [rd_int ey] at ry
    exact .inl ⟨_, _, rx, ry, q ρ _ H (Step.refl _ _) R rfl⟩
  · rename_i i j ex ey
    rw [rd_str ex] at rx; rw [rd_str ey] at ry
    split at e
    · rename_i hz
      cases e
      refine .inr (.inl ⟨_, _, rx, ry, ?_, ?_⟩)
      · simpa [Str.length] using ble_line hz
      · refine q ρ _ H (Step.refl _ _) R ?_
        show V.str _ = V.str _
        congr 1
        show Str.mk _ = Str.mk _
        simp [Str.append]
    · cases e
  · rename_i xs ys ex ey
    rw [rd_tup ex] at rx; rw [rd_tup ey] at ry
    split at e
    · rename_i hz
      cases e
      obtain ⟨a, us, ea, ta, ra⟩ := rx
      obtain ⟨b, vs, eb, tb, rb⟩ := ry
      refine .inr (.inr (.inl ⟨a, b, us, vs, ea, eb, ta.1, tb.1, ?_, fun z => ?_, fun z1 z2 => ?_, fun z1 z2 p hp => ?_⟩))
      · rw [RepL.length ra, RepL.length rb]; exact ble_line hz
      · have z' := ra.nil_iff.mp z
        subst z'
        exact q ρ _ H (Step.refl _ _) R ⟨b, vs, rfl, tb, rb⟩
      · have z' := rb.nil_iff.mp z2
        subst z'
        rw [List.append_nil] at q
        exact q ρ _ H (Step.refl _ _) R ⟨a, us, rfl, ta, ra⟩
      · obtain ⟨a1, a2, a3⟩ := tup_new R (ra.app rb) hp
        exact q _ _ _ a1 a2 a3
    · cases e
  · rename_i xs ys ex ey
    split at e
    · rename_i hz
      cases e
      obtain ⟨a, us, ea, ha, ra⟩ := rd_lst R rx ex
      obtain ⟨b, vs, eb, hb, rb⟩ := rd_lst R ry ey
      refine .inr (.inr (.inr ⟨a, b, us, vs, ea, eb, ha, hb, ?_, fun p hp => ?_⟩))
      · rw [RepL.length ra, RepL.length rb]; exact ble_line hz
      · obtain ⟨a1, a2, a3⟩ := lst_new R (ra.app rb) hp
        exact q _ _ _ a1 a2 a3
    · cases e
  · cases e
theorem RepL.reps {K : PySem.W.Frag} {ρ : Pl} {H : Hp} {xs : List D} {us : List V} (h : RepL K ρ H xs us) : ∀ n : Nat, RepL K ρ H (repL n xs) (List.replicate n us).flatten
  | 0 => rfl
  | n + 1 => by
    unfold repL
    rw [List.replicate_succ, List.replicate_succ, List.flatten_cons, List.flatten_cons]
    exact h.app (RepL.reps h n)
abbrev rMulG (K : PySem.W.Frag) : R2 := fun x y H Q => rI CMul (fun i j => .int (i * j)) x y H Q ∨ rRep x y H Q ∨ rRepT K x y H Q
theorem op_mulG : OpR X (binaryOp .Mult) (rMulG X.K) := op_mul.or (op_rep.or op_repT)
theorem sml_ok {i : Int} (h : sml i = true) : -(2 ^ 64) < i ∧ i < 2 ^ 64 := of_decide_eq_true h
theorem g_mul : OpG N X (rMulG X.K) bMul := by
  intro S ρ H x y d u v Q R rx ry e q
  unfold bMul at e
  split at e
  · rename_i i j ex
    split at e
    · rename_i hs
      cases e
      rw [rd_int ex] at rx
      refine .inl ⟨_, _, rx, ry, ?_, q ρ _ H (Step.refl _ _) R rfl⟩
      rw [Bool.or_eq_true] at hs
      rcases hs with hs | hs
      · exact .inl (sml_ok hs)
      · exact .inr (sml_ok hs)
    · cases e
  · rename_i xs n ex
    split at e
    · rename_i hs
      cases e
      rw [Bool.and_eq_true] at hs
      obtain ⟨h1, h2⟩ := hs
      have h1 := of_decide_eq_true h1
      have h2 := Nat.le_of_ble_eq_true h2
      obtain ⟨a, us, ea, ha, ra⟩ := rd_lst R rx ex
      refine .inr (.inl ⟨a, n, us, ea, ry, ha, by omega, by omega, ?_, fun p hp => ?_⟩)
      · rw [RepL.length ra]
        exact Nat.le_trans (Nat.mul_le_mul h2 (show n.toNat ≤ 1000 by omega)) (by decide)
      · obtain ⟨a1, a2, a3⟩ := lst_new R (ra.reps n.toNat) hp
        exact q _ _ _ a1 a2 a3
    · cases e
  · rename_i xs n ex
    split at e
    · rename_i hs
      cases e
      rw [Bool.and_eq_true, Bool.and_eq_true] at hs
      obtain ⟨⟨h1, h2⟩, h3⟩ := hs
      have h1 := of_decide_eq_true h1
      have h2 := Nat.le_of_ble_eq_true h2
      rw [rd_tup ex] at rx
      obtain ⟨a, us, ea, ta, ra⟩ := rx
      have ne : us ≠ [] := fun z => by
        have := ra.nil_iff.mp z
        subst this
        cases h3
      refine .inr (.inr ⟨a, n, us, ea, ry, ta.1, ne, h1.1, h1.2, by rw [RepL.length ra]; exact h2, fun p hp => ?_⟩)
      obtain ⟨a1, a2, a3⟩ := tup_new R (ra.reps n.toNat) hp
      exact q _ _ _ a1 a2 a3
    · cases e
  · cases e
/-! ### order -/
theorem lexN_lt : ∀ (x y : List Nat), lexN x y = decide (x < y)
  | [], [] => by simp [lexN]
  | _ :: _, [] => by simp [lexN]
  | [], _ :: _ => by simp [lexN]
  | x :: xs, y :: ys => by
    unfold lexN
    rw [Bool.eq_iff_iff, decide_eq_true_iff, List.cons_lt_cons_iff]
    by_cases h : x = y
    · subst h
      simp [lexN_lt xs ys]
    · simp [h, Nat.blt_eq]
theorem ints_rep {K : PySem.W.Frag} {ρ : Pl} {H : Hp} : ∀ {xs : List D} {ns : List Int} {us : List V}, intsOf xs = some ns → RepL K ρ H xs us → us = ns.map V.int
  | [], ns, us, e, h => by cases e; exact h
  | x :: xs, ns, us, e, h => by
    obtain ⟨v, r, rfl, h1, h2⟩ := h
    cases x with
    | int i =>
      unfold intsOf at e
      obtain ⟨ms, e1, rfl⟩ := Option.map_eq_some_iff.mp e
      rw [show v = .int i from h1, ints_rep e1 h2]
      rfl
    | _ => cases e
theorem lexI_lt : ∀ (x y : List Int), lexI x y = HT.lexLt x y
  | [], [] => rfl
  | _ :: _, [] => rfl
  | [], _ :: _ => rfl
  | x :: xs, y :: ys => by
    show (if x = y then lexI xs ys else decide (x < y)) = if x = y then HT.lexLt xs ys else decide (x < y)
    rw [lexI_lt xs ys]
abbrev rLtG (K : PySem.W.Frag) : R2 := fun x y H Q => rI0 (fun i j => .bl (decide (i < j))) x y H Q ∨ (∃ i j, x = .str i ∧ y = .str j ∧ Q (.bl (decide (i.cps.toList < j.cps.toList))) H) ∨ rLtT K x y H Q
theorem op_ltG (hu : X.A.units < cLine) : OpR X (compareOp .Lt) (rLtG X.K) := op_lt.or (op_lt_str.or (op_ltT hu))
theorem g_lt : OpG N X (rLtG X.K) bLt := by
  intro S ρ H x y d u v Q R rx ry e q
  unfold bLt dLt at e
  split at e
  · cases e
    exact .inl ⟨_, _, rx, ry, q ρ _ H (Step.refl _ _) R rfl⟩
  · cases e
    refine .inr (.inl ⟨_, _, rx, ry, ?_⟩)
    rw [lexN_lt] at q
    exact q ρ _ H (Step.refl _ _) R rfl
  · split at e
    · rename_i a b e1 e2
      cases e
      obtain ⟨p, us, rfl, tp, rp⟩ := rx
      obtain ⟨p2, us2, rfl, tp2, rp2⟩ := ry
      rw [lexI_lt] at q
      refine .inr (.inr ⟨p, p2, a, b, rfl, rfl, ?_, ?_, q ρ _ H (Step.refl _ _) R rfl⟩)
      · rw [← ints_rep e1 rp]; exact tp.1
      · rw [← ints_rep e2 rp2]; exact tp2.1
    · cases e
  · cases e
theorem g_le : OpG N X (rI0 fun i j => .bl (decide (i ≤ j))) bLe := by
  intro S ρ H x y d u v Q R rx ry e q
  unfold bLe dLe at e
  split at e
  · cases e; exact ⟨_, _, rx, ry, q ρ _ H (Step.refl _ _) R rfl⟩
  · cases e
theorem g_gt : OpG N X (rI0 fun i j => .bl (decide (j < i))) bGt := by
  intro S ρ H x y d u v Q R rx ry e q
  unfold bGt at e
  split at e
  · cases e; exact ⟨_, _, rx, ry, q ρ _ H (Step.refl _ _) R rfl⟩
  · cases e
theorem g_ge : OpG N X (rI0 fun i j => .bl (decide (j ≤ i))) bGe := by
  intro S ρ H x y d u v Q R rx ry e q
  unfold bGe at e
  split at e
  · cases e; exact ⟨_, _, rx, ry, q ρ _ H (Step.refl _ _) R rfl⟩
  · cases e
end
end G
end

section
set_option Elab.async false
set_option linter.all false
set_option maxRecDepth 100000
set_option maxHeartbeats 4000000
/-! G9: in, x[y]: dicts, lists, tuples. By an AI agent. -/
namespace G
open PySem PySem.Spec PyProof.Rows L2
variable [Cold]
section
variable {K : PySem.W.Frag} {ρ : Pl} {S : Store} {H : Hp}
def KeyInj {κ : Type} (kf : D → Option κ) : Prop := ∀ x y k j, kf x = some k → kf y = some j → (D.eqv x y = true ↔ k = j)
theorem kD_inj : KeyInj kD := by
  intro x y k j hx hy
  cases x <;> first | (cases hx; done) | skip
  · cases y <;> first | (cases hy; done) | skip
    · cases hx; cases hy; simp [D.eqv]
    · cases hx; cases hy; simp [D.eqv]
  · cases y <;> first | (cases hy; done) | skip
    · cases hx; cases hy; simp [D.eqv]
    · cases hx; cases hy; simp [D.eqv]
theorem kDs_inj : ∀ (x y : List D) (k j : List Key), kDs x = some k → kDs y = some j → (eqvL x y = true ↔ k = j)
  | [], [], k, j, hx, hy => by cases hx; cases hy; simp [eqvL]
  | [], b :: y, k, j, hx, hy => by
    cases hx
    unfold kDs at hy
    split at hy
    · cases hy; simp [eqvL]
    · cases hy
  | a :: x, [], k, j, hx, hy => by
    cases hy
    unfold kDs at hx
    split at hx
    · cases hx; simp [eqvL]
    · cases hx
  | a :: x, b :: y, k, j, hx, hy => by
    unfold kDs at hx hy
    split at hx
    · rename_i k1 ks1 h1 h2
      cases hx
      split at hy
      · rename_i k2 ks2 h3 h4
        cases hy
        simp only [eqvL, Bool.and_eq_true]
        rw [kD_inj a b _ _ h1 h3, kDs_inj x y _ _ h2 h4]
        simp
      · cases hy
    · cases hx
theorem kT_inj : KeyInj kT := by
  intro x y k j hx hy
  cases x <;> first | (cases hx; done) | skip
  cases y <;> first | (cases hy; done) | skip
  simp only [D.eqv]
  exact kDs_inj _ _ _ _ hx hy
theorem RepK.get {κ : Type} [DecidableEq κ] {kf : D → Option κ} (inj : KeyInj kf) {x : D} {k : κ} (hk : kf x = some k) : ∀ (kvs : List (D × D)) (q : List (κ × V)), RepK K kf ρ H kvs q →
    (∀ d, dget x kvs = some d → ∃ v, valV q k = some v ∧ Rep K ρ H d v) ∧ (dget x kvs = none → valV q k = none)
  | [], q, h => by
    rw [show q = [] from h]
    exact ⟨fun d e => (nomatch e), fun _ => rfl⟩
  | (y, d) :: r, q, h => by
    obtain ⟨j, v, q', rfl, hj, hv, hr⟩ := h
    obtain ⟨i1, i2⟩ := RepK.get inj hk r q' hr
    have hij := inj y x j k hj hk
    by_cases e : j = k
    · have he := hij.mpr e
      have hd : dget x ((y, d) :: r) = some d := by show (if D.eqv y x = true then some d else dget x r) = _; rw [if_pos he]
      exact ⟨fun d' z => by rw [hd] at z; cases z; exact ⟨v, valV_pos e, hv⟩, fun z => by rw [hd] at z; cases z⟩
    · have hn : ¬ D.eqv y x = true := fun z => e (hij.mp z)
      have hd : dget x ((y, d) :: r) = dget x r := by show (if D.eqv y x = true then some d else dget x r) = _; rw [if_neg hn]
      rw [hd, valV_neg (p := (j, v)) e]
      exact ⟨i1, i2⟩
theorem key_K {x : D} {u : V} (h : isKeyK x = true) (rx : Rep K ρ H x u) : ∃ k, kD x = some k ∧ u = kV k := by
  cases x with
  | int i => exact ⟨.inl i, rfl, rx⟩
  | str z => exact ⟨.inr ⟨z.toArray⟩, rfl, rx⟩
  | _ => cases h
theorem keys_K : ∀ {xs : List D} {us : List V}, xs.all isKeyK = true → RepL K ρ H xs us → ∃ ks, kDs xs = some ks ∧ us = ks.map kV
  | [], us, h, r => ⟨[], rfl, r⟩
  | x :: xs, us, h, r => by
    obtain ⟨v, q, rfl, h1, h2⟩ := r
    rw [List.all_cons, Bool.and_eq_true] at h
    obtain ⟨k, e1, rfl⟩ := key_K h.1 h1
    obtain ⟨ks, e2, rfl⟩ := keys_K h.2 h2
    exact ⟨k :: ks, by unfold kDs; rw [e1, e2], rfl⟩
theorem key_T {x : D} {u : V} (h : isKeyT x = true) (rx : Rep K ρ H x u) : ∃ k b, kT x = some k ∧ u = .ref b ∧ SqT K H b (k.map kV) ∧ (hotD x = true → H b = some (.tup (k.map kV))) := by
  cases x with
  | tup xs =>
    obtain ⟨p, vs, rfl, t, r⟩ := rx
    obtain ⟨ks, e, rfl⟩ := keys_K h r
    exact ⟨ks, p, e, rfl, t.1, fun z => t.2 (by simpa [hotD] using z)⟩
  | _ => cases h
theorem RepK.zip : ∀ {ks : List D} {ds : List D} {keys : List Key} {vs : List V}, kDs ks = some keys → RepL K ρ H ds vs → RepK K kD ρ H (ks.zip ds) (keys.zip vs)
  | [], ds, keys, vs, h, r => by cases h; exact rfl
  | k :: ks, [], keys, vs, h, r => by
    rw [show vs = [] from r]
    simp [RepK]
  | k :: ks, d :: ds, keys, vs, h, r => by
    obtain ⟨v, q, rfl, h1, h2⟩ := r
    unfold kDs at h
    split at h
    · rename_i k1 ks1 e1 e2
      cases h
      exact ⟨k1, v, ks1.zip q, rfl, e1, h1, RepK.zip e2 h2⟩
    · cases h
/-- what the dict at a holds at the key y, constants too -/
def DGetS (K : PySem.W.Frag) (H : Hp) (a : Addr) (y : V) (r : Option V) : Prop :=
  (∃ kvs k, Rd H a (.dK kvs) ∧ y = kV k ∧ r = valV kvs k) ∨ ∃ kvs k b, Rd H a (.dT kvs) ∧ y = .ref b ∧ SqT K H b (k.map kV) ∧ r = valV kvs k
theorem dic_get {N : Nm} (R : Rel K N ρ S H) {x y : D} {u v : V} {kvs : List (D × D)} (rx : Rep K ρ H x u) (ry : Rep K ρ H y v) (e : dicAt S x y = some kvs) :
    ∃ a o, u = .ref a ∧ DGetS K H a v o ∧ (∀ d, dget y kvs = some d → ∃ w, o = some w ∧ Rep K ρ H d w) ∧ (dget y kvs = none → o = none) := by
  cases x with
  | ref n =>
    obtain ⟨a, rfl, ea⟩ := rx
    unfold dicAt at e
    dsimp only at e
    cases hn : S[n]? with
    | none => rw [hn] at e; cases e
    | some so =>
      rw [hn] at e
      obtain ⟨a', h1, h2⟩ := R.at_ n _ hn
      rw [ea] at h1; cases h1
      cases so with
      | dicK kv =>
        dsimp only at e
        split at e
        · rename_i hk
          cases e
          obtain ⟨q, hq, hr⟩ := h2
          obtain ⟨k, ek, rfl⟩ := key_K hk ry
          obtain ⟨g1, g2⟩ := RepK.get kD_inj ek _ _ hr
          exact ⟨a, _, rfl, .inl ⟨q, k, .inl hq, rfl, rfl⟩, fun d z => g1 d z, g2⟩
        · cases e
      | dicT kv =>
        dsimp only at e
        split at e
        · rename_i hk
          cases e
          obtain ⟨q, hq, hr⟩ := h2
          obtain ⟨k, b, ek, rfl, hb, _⟩ := key_T hk ry
          obtain ⟨g1, g2⟩ := RepK.get kT_inj ek _ _ hr
          exact ⟨a, _, rfl, .inr ⟨q, k, b, .inl hq, rfl, hb, rfl⟩, fun d z => g1 d z, g2⟩
        · cases e
      | dicG kv =>
        dsimp only at e
        split at e
        · rename_i hk
          cases e
          obtain ⟨o, q, _, hq, hr⟩ := h2
          obtain ⟨k, ek, rfl⟩ := key_K hk ry
          obtain ⟨g1, g2⟩ := RepK.get kD_inj ek _ _ hr
          exact ⟨a, _, rfl, .inl ⟨q, k, .inr ⟨o, hq⟩, rfl, rfl⟩, fun d z => g1 d z, g2⟩
        · cases e
      | _ => cases e
  | dct ks ds =>
    obtain ⟨a, o, keys, vs, rfl, _, hq, hk, hl, hr⟩ := rx
    unfold dicAt at e
    dsimp only at e
    split at e
    · rename_i hy
      cases e
      obtain ⟨k, ek, rfl⟩ := key_K hy ry
      obtain ⟨g1, g2⟩ := RepK.get kD_inj ek _ _ (RepK.zip hk hr)
      exact ⟨a, _, rfl, .inl ⟨_, k, .inr ⟨o, hq⟩, rfl, rfl⟩, fun d z => g1 d z, g2⟩
    · cases e
  | _ => cases e
end
/-! ### dicts by keys that may be constants -/
section
variable {X : Cx} {pins : List (Addr × Obj)} {σ : L2.St} {H : Hp} {s : Shared} {a : Addr} {y v : V} {u r : Value} {o : Option V} {A : Around} {E : Value → Shared → Prop}
theorem key_ofS {b : Addr} {ks : List Key} (I : Inv X pins σ H s) (h : SqT X.K H b (ks.map kV)) : (tupleKind (mixKind X.prog X.w)).is s.heap ks b := by
  obtain ⟨its, r, ⟨o, h1, h2, n, h3⟩, _⟩ := I.tuple h
  exact ⟨o, its.toArray, n, h1, h2, h3, by simpa using items_are r⟩
theorem dS_getItem {Q : Value → Shared → Prop} (hu : A.units + 1 < cLine) (I : Inv X pins σ H s) (g : DGetS X.K H a y (some v)) (ry : RelV y u) (h : ∀ w' s', Inv X pins σ H s' → RelV v w' → Q w' s') :
    wpAny (model X.prog X.w) A (getItem (.ref a) u) Q E s := by
  rcases g with ⟨kvs, k, e, ey, l⟩ | ⟨kvs, k, b, e, ey, eb, l⟩
  · exact d_getItem hu I (.inl ⟨kvs, k, e, ey, l⟩) ry h
  · subst ey
    cases (show u = Value.ref b from ry)
    obtain ⟨z, hd, xs, rel, dd⟩ := dt_rd I.hok e
    obtain ⟨w', hw, rw'⟩ := RelO.some_of (v := v) (o := (atKey xs k).map (·.2)) (by rw [l]; exact rel.val k)
    obtain ⟨p, hp, hp2⟩ := Option.map_eq_some_iff.mp hw
    refine wpAny_getItem_heap (tupleKind_room_in1 hu) (key_ofS I eb) dd hp ?_
    rw [hp2]
    exact h w' _ (I.tok _) rw'
theorem dS_in {Q : Value → Shared → Prop} (hu : A.units + 1 < cLine) (I : Inv X pins σ H s) (g : DGetS X.K H a y o) (ry : RelV y u) (h : ∀ s', Inv X pins σ H s' → Q (.bool o.isSome) s') :
    wpAny (model X.prog X.w) A (compareOp .In u (.ref a)) Q E s := by
  rcases g with ⟨kvs, k, e, ey, l⟩ | ⟨kvs, k, b, e, ey, eb, l⟩
  · exact d_in hu I (.inl ⟨kvs, k, e, ey, l⟩) ry h
  · subst ey
    cases (show u = Value.ref b from ry)
    obtain ⟨z, hd, xs, rel, dd⟩ := dt_rd I.hok e
    refine wpAny_in_heap (tupleKind_room_in1 hu) (key_ofS I eb) hd dd ?_
    have q := (rel.val k).isSome_eq
    rw [Option.isSome_map] at q
    rw [← q, ← l]
    exact h _ (I.tok _)
theorem dS_notIn {Q : Value → Shared → Prop} (hu : A.units + 1 < cLine) (I : Inv X pins σ H s) (g : DGetS X.K H a y o) (ry : RelV y u) (h : ∀ s', Inv X pins σ H s' → Q (.bool (!o.isSome)) s') :
    wpAny (model X.prog X.w) A (compareOp .NotIn u (.ref a)) Q E s := by
  rcases g with ⟨kvs, k, e, ey, l⟩ | ⟨kvs, k, b, e, ey, eb, l⟩
  · exact d_notIn hu I (.inl ⟨kvs, k, e, ey, l⟩) ry h
  · subst ey
    cases (show u = Value.ref b from ry)
    obtain ⟨z, hd, xs, rel, dd⟩ := dt_rd I.hok e
    refine wpAny_notIn_heap (tupleKind_room_in1 hu) (key_ofS I eb) hd dd ?_
    have q := (rel.val k).isSome_eq
    rw [Option.isSome_map] at q
    rw [← q, ← l]
    exact h _ (I.tok _)
end
section
variable {N : Nm} {X : Cx}
def rDIn (K : PySem.W.Frag) (neg : Bool) : R2 := fun x y H Q => ∃ a o, y = .ref a ∧ DGetS K H a x o ∧ Q (.bl (if neg then !o.isSome else o.isSome)) H
def rSIn (K : PySem.W.Frag) (neg : Bool) : R2 := fun x y H Q => ∃ d ds, Dp K H x d ∧ (Dp K H y (.list ds) ∨ Dp K H y (.tuple ds)) ∧ SeqAt.shaped d = true ∧ SeqAt.shaped (.list ds) = true ∧ Q (.bl (if neg then !ds.any fun z => PyData.eqv z d else ds.any fun z => PyData.eqv z d)) H
theorem op_inG (hu : X.A.units + 65 < cLine) : OpR X (compareOp .In) (fun x y H Q => rDIn X.K false x y H Q ∨ rSIn X.K false x y H Q) := by
  intro pins s σ H x y v u Q I rx ry h
  rcases h with h | h
  · obtain ⟨a, o, rfl, g, q⟩ := h
    obtain rfl : u = Value.ref a := ry
    exact dS_in (by omega) I g rx fun s' I' => ⟨.bl o.isSome, H, I', rfl, q⟩
  · obtain ⟨d, ds, hd, he, sd, se, q⟩ := h
    obtain ⟨as, r1⟩ := Dp.reads I d x v hd rx
    rcases he with he | he
    · obtain ⟨bs, r2⟩ := Dp.reads I (.list ds) y u he ry
      exact SeqAt.in_list_reads r2 r1 (SeqAt.canLay_of_shaped se) (SeqAt.canLay_of_shaped sd) (room_in_shaped sd hu) ⟨.bl _, H, I, rfl, q⟩
    · obtain ⟨bs, r2⟩ := Dp.reads I (.tuple ds) y u he ry
      exact SeqAt.in_tuple_reads r2 r1 (SeqAt.canLay_of_shaped se) (SeqAt.canLay_of_shaped sd) (room_in_shaped sd hu) ⟨.bl _, H, I, rfl, q⟩
theorem op_notInG (hu : X.A.units + 65 < cLine) : OpR X (compareOp .NotIn) (fun x y H Q => rDIn X.K true x y H Q ∨ rSIn X.K true x y H Q) := by
  intro pins s σ H x y v u Q I rx ry h
  rcases h with h | h
  · obtain ⟨a, o, rfl, g, q⟩ := h
    obtain rfl : u = Value.ref a := ry
    exact dS_notIn (by omega) I g rx fun s' I' => ⟨.bl (!o.isSome), H, I', rfl, q⟩
  · obtain ⟨d, ds, hd, he, sd, se, q⟩ := h
    obtain ⟨as, r1⟩ := Dp.reads I d x v hd rx
    rcases he with he | he
    · obtain ⟨bs, r2⟩ := Dp.reads I (.list ds) y u he ry
      exact SeqAt.notIn_list_reads r2 r1 (SeqAt.canLay_of_shaped se) (SeqAt.canLay_of_shaped sd) (room_in_shaped sd hu) ⟨.bl _, H, I, rfl, q⟩
    · obtain ⟨bs, r2⟩ := Dp.reads I (.tuple ds) y u he ry
      exact SeqAt.notIn_tuple_reads r2 r1 (SeqAt.canLay_of_shaped se) (SeqAt.canLay_of_shaped sd) (room_in_shaped sd hu) ⟨.bl _, H, I, rfl, q⟩
theorem any_py : ∀ (ys : List D) (x : D), x.pl deep = true → ys.all (D.pl 19) = true → ((toPyL ys).any fun z => PyData.eqv z (toPy x)) = ys.any fun z => z.eqv x
  | [], _, _, _ => rfl
  | y :: ys, x, hx, hy => by
    rw [List.all_cons, Bool.and_eq_true] at hy
    have h1 : D.pl deep y = true := pl_up 19 y hy.1
    simp only [toPyL, List.any_cons]
    rw [eqv_py deep y x h1 hx, any_py ys x hx hy.2]
where
  pl_up : ∀ (n : Nat) (d : D), D.pl n d = true → D.pl (n + 1) d = true := by
    intro n
    induction n with
    | zero => intro d h; cases d <;> first | exact h | cases h
    | succ n ih =>
      intro d h
      have all : ∀ xs : List D, xs.all (D.pl n) = true → xs.all (D.pl (n + 1)) = true := fun xs h => List.all_eq_true.mpr fun x hx => ih x (List.all_eq_true.mp h x hx)
      cases d with
      | tup xs => exact all xs h
      | lst xs => exact all xs h
      | _ => first | exact h | cases h
theorem seq_dp {K : PySem.W.Frag} {ρ : Pl} {S : Store} {H : Hp} {y : D} {v : V} {ys : List D} (R : Rel K N ρ S H) (ry : Rep K ρ H y v) (e : seqOf S y = some ys) (hp : ys.all (D.pl 19) = true) :
    (Dp K H v (.list (toPyL ys)) ∨ Dp K H v (.tuple (toPyL ys))) ∧ SeqAt.shaped (.list (toPyL ys)) = true := by
  have hs : SeqAt.shaped (toPy (.lst ys)) = true := pl_shaped (d := .lst ys) hp
  refine ⟨?_, hs⟩
  unfold seqOf at e
  split at e
  · rename_i xs ex
    cases e
    obtain ⟨a, vs, rfl, h1, h2⟩ := rd_lst R ry ex
    exact .inl (.lst (SqL.of h1) (RepL.dpAll (Rep.dp 19) _ _ hp h2))
  · rename_i xs ex
    cases e
    rw [rd_tup ex] at ry
    obtain ⟨p, vs, rfl, t, q⟩ := ry
    exact .inr (.tup t.1 (RepL.dpAll (Rep.dp 19) _ _ hp q))
  · cases e
theorem memD_some {S : Store} {x y : D} {b : Bool} (e : memD S x y = some b) : ∃ ys, seqOf S y = some ys ∧ x.pl deep = true ∧ ys.all (D.pl 19) = true ∧ b = ys.any fun z => z.eqv x := by
  unfold memD at e
  split at e
  · rename_i ys hy
    split at e
    · rename_i h
      cases e
      exact ⟨ys, hy, (Bool.and_eq_true_iff.mp h).1, (Bool.and_eq_true_iff.mp h).2, rfl⟩
    · cases e
  · cases e
theorem in_any (neg : Bool) {S : Store} {ρ : Pl} {H : Hp} {x y : D} {u v : V} {b : Bool} {Q : VK} (R : Rel X.K N ρ S H) (rx : Rep X.K ρ H x u) (ry : Rep X.K ρ H y v) (e : bIn S x y = some b) (q : Q (.bl (if neg then !b else b)) H) :
    rDIn X.K neg u v H Q ∨ rSIn X.K neg u v H Q := by
  unfold bIn at e
  split at e
  · rename_i kvs hd
    cases e
    obtain ⟨a, o, rfl, g, g1, g2⟩ := dic_get R ry rx hd
    have ho : o.isSome = (dget x kvs).isSome := by
      cases z : dget x kvs with
      | none => rw [g2 z]; rfl
      | some d => obtain ⟨w, rfl, _⟩ := g1 d z; rfl
    exact .inl ⟨a, o, rfl, g, by rw [ho]; exact q⟩
  · obtain ⟨ys, hy, h1, h2, rfl⟩ := memD_some e
    obtain ⟨a1, a2⟩ := seq_dp R ry hy h2
    refine .inr ⟨toPy x, toPyL ys, Rep.dp deep x u h1 rx, a1, pl_shaped h1, a2, ?_⟩
    rw [any_py ys x h1 h2]
    exact q
theorem g_in : OpG N X (fun x y H Q => rDIn X.K false x y H Q ∨ rSIn X.K false x y H Q) bInD := by
  intro S ρ H x y d u v Q R rx ry e q
  unfold bInD toB at e
  cases hb : bIn S x y with
  | none => rw [hb] at e; cases e
  | some b => rw [hb] at e; cases e; exact in_any false R rx ry hb (q ρ _ H (Step.refl _ _) R rfl)
theorem g_notIn : OpG N X (fun x y H Q => rDIn X.K true x y H Q ∨ rSIn X.K true x y H Q) bNotIn := by
  intro S ρ H x y d u v Q R rx ry e q
  unfold bNotIn at e
  cases hb : bIn S x y with
  | none => rw [hb] at e; cases e
  | some b => rw [hb] at e; cases e; exact in_any true R rx ry hb (q ρ _ H (Step.refl _ _) R rfl)
/-! ### x[y] -/
def rDIx (K : PySem.W.Frag) : R2 := fun x y H Q => ∃ a v, x = .ref a ∧ DGetS K H a y (some v) ∧ Q v H
theorem dS_typeIs {pins : List (Addr × Obj)} {σ : L2.St} {H : Hp} {s : Shared} {a : Addr} {y : V} {o : Option V} (I : Inv X pins σ H s) (g : DGetS X.K H a y o) : s.TypeIs (.ref a) "dict" := by
  rcases g with ⟨kvs, k, e, _, _⟩ | ⟨kvs, k, b, e, _, _, _⟩
  · exact dict_typeIs I (.inl ⟨kvs, k, e, rfl, rfl⟩ : DGet H a (kV k) (valV kvs k))
  · obtain ⟨z, hd, xs, rel, o, es, ep, h1, h2, h3⟩ := dt_rd I.hok e
    exact ⟨o, h1, h2.1⟩
theorem ix_dic (hu : X.A.units + 1 < cLine) : IxR X (rDIx X.K) := by
  intro value slice pins s σ H x y v u Q I rx ry h hs
  obtain ⟨a, w, rfl, g, q⟩ := h
  obtain rfl : v = Value.ref a := rx
  exact tail_any (dS_typeIs I g) PySem.F.slot_dict_getitem.lookup (dS_getItem hu I g ry fun w' s' I' r => ⟨w, H, I', r, q⟩) hs
theorem ix_G (hu : X.A.units + 1 < cLine) : IxR X (fun x y H Q => rDIx X.K x y H Q ∨ rIx X.K x y H Q) := (ix_dic hu).or ix_seq
theorem at_rep {K : PySem.W.Frag} {ρ : Pl} {H : Hp} {xs : List D} {us : List V} {i : Int} {d : D} (r : RepL K ρ H xs us) (e : atD xs i = some d) : ∃ v, atI us i = some v ∧ Rep K ρ H d v := by
  unfold atD at e
  obtain ⟨j, h1, h2⟩ := Option.bind_eq_some_iff.mp e
  obtain ⟨v, g1, g2⟩ := (RepL.at (i := j) r).1 d h2
  refine ⟨v, ?_, g2⟩
  unfold atI
  rw [RepL.length r, show L2.ixN xs.length i = some j from h1]
  exact g1
theorem repInts {K : PySem.W.Frag} {ρ : Pl} {H : Hp} : ∀ xs : List Int, RepL K ρ H (xs.map D.int) (xs.map V.int)
  | [] => rfl
  | i :: r => ⟨.int i, r.map V.int, rfl, rfl, repInts r⟩
theorem g_ixR : OpG N X (fun x y H Q => rDIx X.K x y H Q ∨ rIx X.K x y H Q) bIx := by
  intro S ρ H x y d u v Q R rx ry e q
  unfold bIx at e
  split at e
  · rename_i kvs hd
    obtain ⟨a, o, rfl, g, g1, g2⟩ := dic_get R rx ry hd
    obtain ⟨w, rfl, rw'⟩ := g1 d e
    exact .inl ⟨a, w, rfl, g, q ρ _ H (Step.refl _ _) R rw'⟩
  · split at e
    · rename_i xs i ex _
      obtain ⟨a, vs, rfl, h1, h2⟩ := rd_lst R rx ex
      obtain ⟨w, e1, e2⟩ := at_rep h2 e
      exact .inr (.inl ⟨a, vs, i, w, rfl, ry, SqL.of h1, e1, q ρ _ H (Step.refl _ _) R e2⟩)
    · rename_i xs i ex _
      rw [rd_tup ex] at rx
      obtain ⟨p, vs, rfl, t, r⟩ := rx
      obtain ⟨w, e1, e2⟩ := at_rep r e
      exact .inr (.inr (.inl ⟨p, vs, i, w, rfl, ry, t.1, e1, q ρ _ H (Step.refl _ _) R e2⟩))
    · rename_i xs i ex _
      have ex' : x = .scr xs := rd_scr ex
      subst ex'
      obtain ⟨a, rfl, h1⟩ := rx
      have rl := repInts (K := X.K) (ρ := ρ) (H := H) xs
      obtain ⟨w, e1, e2⟩ := at_rep rl e
      exact .inr (.inl ⟨a, _, i, w, rfl, ry, h1.sql, e1, q ρ _ H (Step.refl _ _) R e2⟩)
    · rename_i z i ex _
      have ex' : x = .str z := rd_str ex
      subst ex'
      split at e
      · rename_i hl
        obtain ⟨c, hc, rfl⟩ := Option.map_eq_some_iff.mp e
        obtain rfl : u = .str ⟨z.toArray⟩ := rx
        refine .inr (.inr (.inr ⟨⟨z.toArray⟩, i, c, rfl, ry, ?_, ?_, q ρ _ H (Step.refl _ _) R rfl⟩))
        · have := Nat.le_of_ble_eq_true hl
          show (z.toArray).size ≤ sizeLine
          rw [List.size_toArray]
          exact Nat.le_trans this (by decide)
        · show atI (z.toArray.toList) i = some c
          unfold atI
          exact hc
      · cases e
    · cases e
variable {W : WX} {a b : Expr} {ma mb : EM} {pos : Pos}
theorem g_ix (hu : X.A.units + 1 < cLine) (ha : GE N X W a ma) (hb : GE N X W b mb) (hs : PlainIx b) : GE N X W (.Subscript a b pos) (eBin bIx ma mb) :=
  PE.imp (pe_ix (ix_G hu) ha hb hs) fun _ _ _ h => two g_ixR h
end
end G
end

section
set_option Elab.async false
set_option linter.all false
set_option maxRecDepth 100000
set_option maxHeartbeats 4000000
/-! G10: built-ins. By an AI agent. -/
namespace G
open PySem PySem.Spec PyProof.Rows L2
variable [Cold]
section
variable {N : Nm} {X : Cx} {W : WX}
def CallG (N : Nm) (X : Cx) (r : List V → Hp → VK → Prop) (f : Store → List D → Option D) : Prop := ∀ (S : Store) (ρ : Pl) (H : Hp) (xs : List D) (d : D) (us : List V) (Q : VK), Rel X.K N ρ S H → RepL X.K ρ H xs us → f S xs = some d →
  (∀ (ρ' : Pl) (z : V) (H' : Hp), Step ρ H ρ' H' → Rel X.K N ρ' S H' → Rep X.K ρ' H' d z → Q z H') → r us H Q
theorem callG {r : List V → Hp → VK → Prop} {f : Store → List D → Option D} {me : AM} {σ : L2.St} {H : Hp} {Q : VK} (hg : CallG N X r f) (h : tE X.K N W (eBuilt f me) σ H Q) : tCB r (tA_ X.K N W me) σ H Q := by
  obtain ⟨env, S, ρ, fr, h⟩ := h
  refine ⟨env, S, ρ, fr, h.bA fun xs S1 ρ1 us H1 st1 r1 p1 h1 => ?_⟩
  obtain ⟨d, e, h2⟩ := h1.ofO
  exact hg S1 ρ1 H1 xs d us Q r1 p1 e fun ρ' z H' st r p => h2 ρ' z H' st r p
variable {x : Str} {p pos : Pos} {e : Expr} {es : List Expr} {ma : AM} {id T : String} {r : List V → Hp → VK → Prop} {f : Store → List D → Option D}
theorem g_blt (hc : CallR X (.builtin id) r) (cg : CallG N X r f) (hg : Gl X x) (hm : X.mg x = none) (hv : bootBuiltins x = some (.builtin id)) (ha : GA N X W (e :: es) ma) (hn : x ≠ "__name__" := by decide) (hdb : (x == ("__debug__" : Str)) = false := by decide)
    (he : starEach (e :: es) X.env = (false, eval e X.env) :: starEach es X.env := by rfl) (hpl : (backTo pos (starEach es X.env)).any (·.1) = false := by rfl) : GE N X W (.Call (.Name x p) (e :: es) [] pos) (eBuilt f ma) :=
  PE.imp (pe_callB hc hg hm hv ha hn hdb he hpl) fun _ _ _ h => callG cg h
theorem g_typ (hc : CallR X (.type T) r) (cg : CallG N X r f) (hg : Gl X x) (hm : X.mg x = none) (hv : bootBuiltins x = some (.type T)) (ha : GA N X W (e :: es) ma) (hn : x ≠ "__name__" := by decide) (hdb : (x == ("__debug__" : Str)) = false := by decide)
    (he : starEach (e :: es) X.env = (false, eval e X.env) :: starEach es X.env := by rfl) (hpl : (backTo pos (starEach es X.env)).any (·.1) = false := by rfl) : GE N X W (.Call (.Name x p) (e :: es) [] pos) (eBuilt f ma) :=
  PE.imp (pe_callTy hc hg hm hv ha hn hdb he hpl) fun _ _ _ h => callG cg h
theorem rep1 {K : PySem.W.Frag} {ρ : Pl} {H : Hp} {d : D} {us : List V} (h : RepL K ρ H [d] us) : ∃ u, us = [u] ∧ Rep K ρ H d u := by
  obtain ⟨v, r, rfl, h1, h2⟩ := h
  rw [show r = [] from h2]
  exact ⟨v, rfl, h1⟩
theorem rep2 {K : PySem.W.Frag} {ρ : Pl} {H : Hp} {d d2 : D} {us : List V} (h : RepL K ρ H [d, d2] us) : ∃ u u2, us = [u, u2] ∧ Rep K ρ H d u ∧ Rep K ρ H d2 u2 := by
  obtain ⟨v, r, rfl, h1, h2⟩ := h
  obtain ⟨u2, rfl, h3⟩ := rep1 h2
  exact ⟨v, u2, rfl, h1, h3⟩
theorem f1 {S : Store} {xs : List D} {g : D → Option D} {d : D} (h : (match xs with | [y] => g y | _ => none) = some d) : ∃ y, xs = [y] ∧ g y = some d := by
  split at h
  · exact ⟨_, rfl, h⟩
  · cases h
/-! ### len -/
theorem call_lenDD : CallR X (.builtin "len") (fun xs H Q => ∃ a n, xs = [V.ref a] ∧ ((∃ kvs, Rd H a (.dK kvs) ∧ n = kvs.length) ∨ ∃ kvs, Rd H a (.dT kvs) ∧ n = kvs.length) ∧ Q (.int n) H) := by
  intro pins s σ H xs us Q I r h
  obtain ⟨a, n, rfl, h, q⟩ := h
  obtain ⟨u, rfl, ru⟩ := vals1 r
  cases ru
  rcases h with ⟨kvs, ha, rfl⟩ | ⟨kvs, ha, rfl⟩
  · exact d_len I ha fun t s' I' => ⟨.int kvs.length, H, I', ⟨t, rfl⟩, q⟩
  · obtain ⟨z, hd, xs, rel, dd⟩ := dt_rd I.hok ha
    have hl : kvs.length = xs.length := Paired.length rel
    have := line63
    refine call_len_dictH hd dd (by omega) ⟨.int kvs.length, H, I.tok _, ⟨_, by rw [hl]⟩, q⟩
abbrev rLenG (K : PySem.W.Frag) : List V → Hp → VK → Prop := fun xs H Q => (∃ x n, xs = [x] ∧ LenV K x H n ∧ Q (.int n) H) ∨ ∃ a n, xs = [V.ref a] ∧ ((∃ kvs, Rd H a (.dK kvs) ∧ n = kvs.length) ∨ ∃ kvs, Rd H a (.dT kvs) ∧ n = kvs.length) ∧ Q (.int n) H
theorem call_lenG : CallR X (.builtin "len") (rLenG X.K) := call_len.or call_lenDD
theorem RepK.length {K : PySem.W.Frag} {ρ : Pl} {H : Hp} {κ : Type} {kf : D → Option κ} : ∀ {kvs : List (D × D)} {q : List (κ × V)}, RepK K kf ρ H kvs q → q.length = kvs.length
  | [], q, h => by rw [show q = [] from h]; rfl
  | (x, d) :: r, q, h => by
    obtain ⟨k, v, q', rfl, _, _, hr⟩ := h
    simp [RepK.length hr]
theorem prs_rep {K : PySem.W.Frag} {ρ : Pl} {S : Store} {H : Hp} {d : D} {u : V} {kvs : List (D × D)} (R : Rel K N ρ S H) (rx : Rep K ρ H d u) (e : prsOf S d = some kvs) :
    ∃ a, u = .ref a ∧ ((∃ q, Rd H a (.dK q) ∧ RepK K kD ρ H kvs q) ∨ ∃ q, Rd H a (.dT q) ∧ RepK K kT ρ H kvs q) := by
  cases d with
  | ref n =>
    obtain ⟨a, rfl, ea⟩ := rx
    unfold prsOf at e
    dsimp only at e
    cases hn : S[n]? with
    | none => rw [hn] at e; cases e
    | some so =>
      rw [hn] at e
      obtain ⟨a', h1, h2⟩ := R.at_ n _ hn
      rw [ea] at h1; cases h1
      cases so with
      | dicK kv => cases e; obtain ⟨q, hq, hr⟩ := h2; exact ⟨a, rfl, .inl ⟨q, .inl hq, hr⟩⟩
      | dicG kv => cases e; obtain ⟨o, q, _, hq, hr⟩ := h2; exact ⟨a, rfl, .inl ⟨q, .inr ⟨o, hq⟩, hr⟩⟩
      | dicT kv => cases e; obtain ⟨q, hq, hr⟩ := h2; exact ⟨a, rfl, .inr ⟨q, .inl hq, hr⟩⟩
      | _ => cases e
  | dct ks ds =>
    obtain ⟨a, o, keys, vs, rfl, _, hq, hk, hl, hr⟩ := rx
    cases e
    exact ⟨a, rfl, .inl ⟨_, .inr ⟨o, hq⟩, RepK.zip hk hr⟩⟩
  | _ => cases e
theorem cg_len : CallG N X (rLenG X.K) fLen := by
  intro S ρ H xs d us Q R rl e q
  unfold fLen at e
  obtain ⟨y, rfl, e⟩ := f1 (S := S) e
  dsimp only at e
  obtain ⟨u, rfl, rx⟩ := rep1 rl
  split at e
  · rename_i zs ez
    cases e
    obtain ⟨a, vs, rfl, h1, h2⟩ := rd_lst R rx ez
    refine .inl ⟨_, vs.length, rfl, .inl ⟨vs, SqL.of h1, rfl⟩, q ρ _ H (Step.refl _ _) R ?_⟩
    show V.int _ = V.int _
    rw [RepL.length h2]
  · rename_i zs ez
    cases e
    rw [rd_tup ez] at rx
    obtain ⟨a, vs, rfl, h1, h2⟩ := rx
    refine .inl ⟨_, vs.length, rfl, .inr ⟨vs, h1.1, rfl⟩, q ρ _ H (Step.refl _ _) R ?_⟩
    show V.int _ = V.int _
    rw [RepL.length h2]
  · rename_i zs ez
    split at e
    · rename_i hz
      cases e
      rw [rd_str ez] at rx
      obtain rfl : u = V.str _ := rx
      refine .inl ⟨_, zs.length, rfl, ⟨?_, ?_⟩, q ρ _ H (Step.refl _ _) R rfl⟩
      · simpa [Str.length] using ble_line hz
      · simp [Str.length]
    · cases e
  · rename_i zs ez
    cases e
    rw [rd_scr ez] at rx
    obtain ⟨a, rfl, h1⟩ := rx
    refine .inl ⟨_, _, rfl, .inl ⟨_, h1.sql, rfl⟩, q ρ _ H (Step.refl _ _) R ?_⟩
    show V.int _ = V.int _
    rw [List.length_map]
  · obtain ⟨kvs, e1, rfl⟩ := Option.map_eq_some_iff.mp e
    obtain ⟨a, rfl, h⟩ := prs_rep R rx e1
    refine .inr ⟨a, kvs.length, rfl, ?_, q ρ _ H (Step.refl _ _) R rfl⟩
    rcases h with ⟨qq, h1, h2⟩ | ⟨qq, h1, h2⟩
    · exact .inl ⟨qq, h1, (RepK.length h2).symm⟩
    · exact .inr ⟨qq, h1, (RepK.length h2).symm⟩
/-! ### all, any, sum -/
theorem bools_rep {K : PySem.W.Frag} {ρ : Pl} {H : Hp} : ∀ {xs : List D} {bs : List Bool} {us : List V}, boolsOf xs = some bs → RepL K ρ H xs us → us = bs.map V.bl
  | [], ns, us, e, h => by cases e; exact h
  | x :: xs, ns, us, e, h => by
    obtain ⟨v, r, rfl, h1, h2⟩ := h
    cases x with
    | bl i =>
      unfold boolsOf at e
      obtain ⟨ms, e1, rfl⟩ := Option.map_eq_some_iff.mp e
      rw [show v = .bl i from h1, bools_rep e1 h2]
      rfl
    | _ => cases e
theorem cg_all : CallG N X (rAll X.K) fAll := by
  intro S ρ H xs d us Q R rl e q
  unfold fAll at e
  obtain ⟨y, rfl, e⟩ := f1 (S := S) e
  dsimp only at e
  obtain ⟨u, rfl, rx⟩ := rep1 rl
  split at e
  · rename_i zs ez
    obtain ⟨bs, e1, rfl⟩ := Option.map_eq_some_iff.mp e
    obtain ⟨a, vs, rfl, h1, h2⟩ := rd_lst R rx ez
    exact ⟨a, bs, rfl, by rw [← bools_rep e1 h2]; exact SqL.of h1, q ρ _ H (Step.refl _ _) R rfl⟩
  · cases e
theorem cg_any : CallG N X (rAny X.K) fAny := by
  intro S ρ H xs d us Q R rl e q
  unfold fAny at e
  obtain ⟨y, rfl, e⟩ := f1 (S := S) e
  dsimp only at e
  obtain ⟨u, rfl, rx⟩ := rep1 rl
  split at e
  · rename_i zs ez
    obtain ⟨bs, e1, rfl⟩ := Option.map_eq_some_iff.mp e
    obtain ⟨a, vs, rfl, h1, h2⟩ := rd_lst R rx ez
    exact ⟨a, bs, rfl, by rw [← bools_rep e1 h2]; exact SqL.of h1, q ρ _ H (Step.refl _ _) R rfl⟩
  · cases e
theorem cg_sum : CallG N X (rSum X.K) fSum := by
  intro S ρ H xs d us Q R rl e q
  unfold fSum at e
  obtain ⟨y, rfl, e⟩ := f1 (S := S) e
  dsimp only at e
  obtain ⟨u, rfl, rx⟩ := rep1 rl
  split at e
  · rename_i zs ez
    obtain ⟨bs, e1, rfl⟩ := Option.map_eq_some_iff.mp e
    obtain ⟨a, vs, rfl, h1, h2⟩ := rd_lst R rx ez
    exact ⟨a, bs, rfl, by rw [← ints_rep e1 h2]; exact SqL.of h1, q ρ _ H (Step.refl _ _) R rfl⟩
  · cases e
/-! ### abs, int, tuple -/
theorem cg_abs : CallG N X (fun xs H Q => ∃ i, xs = [.int i] ∧ Q (.int (if i < 0 then -i else i)) H) fAbs := by
  intro S ρ H xs d us Q R rl e q
  unfold fAbs at e
  split at e
  · cases e
    obtain ⟨u, rfl, rx⟩ := rep1 rl
    obtain rfl : u = V.int _ := rx
    exact ⟨_, rfl, q ρ _ H (Step.refl _ _) R rfl⟩
  · cases e
theorem cg_int : CallG N X (fun xs H Q => (∃ i, xs = [.int i] ∧ Q (.int i) H) ∨ ∃ k, xs = [.bl k] ∧ Q (.int (if k then 1 else 0)) H) fInt := by
  intro S ρ H xs d us Q R rl e q
  unfold fInt at e
  split at e
  · cases e
    obtain ⟨u, rfl, rx⟩ := rep1 rl
    obtain rfl : u = V.int _ := rx
    exact .inl ⟨_, rfl, q ρ _ H (Step.refl _ _) R rfl⟩
  · cases e
    obtain ⟨u, rfl, rx⟩ := rep1 rl
    obtain rfl : u = V.bl _ := rx
    exact .inr ⟨_, rfl, q ρ _ H (Step.refl _ _) R rfl⟩
  · cases e
theorem cg_tuple : CallG N X (fun xs H Q => ∃ p ys, xs = [.ref p] ∧ ((SqL X.K H p ys ∧ ∀ l, H l = none → Q (.ref l) (upd H l (.tup ys))) ∨ (SqT X.K H p ys ∧ Q (.ref p) H))) fTuple := by
  intro S ρ H xs d us Q R rl e q
  unfold fTuple at e
  obtain ⟨y, rfl, e⟩ := f1 (S := S) e
  dsimp only at e
  obtain ⟨u, rfl, rx⟩ := rep1 rl
  obtain ⟨zs, e1, rfl⟩ := Option.map_eq_some_iff.mp e
  unfold seqOf at e1
  split at e1
  · rename_i ws ez
    cases e1
    obtain ⟨a, vs, rfl, h1, h2⟩ := rd_lst R rx ez
    refine ⟨a, vs, rfl, .inl ⟨SqL.of h1, fun l hl => ?_⟩⟩
    obtain ⟨a1, a2, a3⟩ := tup_new R h2 hl
    exact q _ _ _ a1 a2 a3
  · rename_i ws ez
    cases e1
    rw [rd_tup ez] at rx
    obtain ⟨a, vs, rfl, h1, h2⟩ := rx
    exact ⟨a, vs, rfl, .inr ⟨h1.1, q ρ _ H (Step.refl _ _) R ⟨a, vs, rfl, h1, h2⟩⟩⟩
  · cases e1
end
end G
end

section
set_option Elab.async false
set_option linter.all false
set_option maxRecDepth 100000
set_option maxHeartbeats 4000000
/-! GS1: sorting: the plain part. By an AI agent. -/
namespace G
open PySem PySem.Spec PyProof.Rows L2 SrtO
section
variable {α β : Type} {lt : α → α → Bool}
theorem insG_split (O : Swo lt) (x : α) : ∀ {l : List α}, Srtd lt l → ∃ M N, l = M ++ N ∧ insG lt x l = M ++ x :: N ∧ (∀ y ∈ M, lt x y = false) ∧ ∀ y ∈ N, lt x y = true
  | [], _ => ⟨[], [], rfl, rfl, fun _ h => (nomatch h), fun _ h => (nomatch h)⟩
  | y :: r, h => by
    cases e : lt x y with
    | true => exact ⟨[], y :: r, rfl, by show (if lt x y = true then _ else _) = _; rw [e]; rfl, fun _ h => (nomatch h), Swo.lt_all O h e⟩
    | false =>
      obtain ⟨M, N, e1, e2, h1, h2⟩ := insG_split O x (List.pairwise_cons.mp h).2
      refine ⟨y :: M, N, by rw [e1]; rfl, by show (if lt x y = true then _ else _) = _; rw [e, e2]; rfl, fun z hz => ?_, h2⟩
      rcases List.mem_cons.mp hz with q | q
      · rw [q]; exact e
      · exact h1 z q
theorem sortG_aux (O : Swo lt) : ∀ (xs acc don : List α), Srtd lt acc → Stb lt acc don → Srtd lt (xs.foldl (fun acc x => insG lt x acc) acc) ∧ Stb lt (xs.foldl (fun acc x => insG lt x acc) acc) (don ++ xs)
  | [], acc, don, hs, hb => by rw [List.append_nil]; exact ⟨hs, hb⟩
  | x :: xs, acc, don, hs, hb => by
    obtain ⟨M, N, e1, e2, h1, h2⟩ := insG_split O x hs
    have a1 : Srtd lt (insG lt x acc) := by rw [e2]; exact ins_srtd O (by rw [← e1]; exact hs) h1 h2
    have a2 : Stb lt (insG lt x acc) (don ++ [x]) := by rw [e2]; exact ins_stb O h2 (by rw [← e1]; exact hb)
    have := sortG_aux O xs (insG lt x acc) (don ++ [x]) a1 a2
    rw [List.append_assoc] at this
    exact this
theorem sortG_ok (O : Swo lt) (xs : List α) : Srtd lt (sortG lt xs) ∧ Stb lt (sortG lt xs) xs := by
  have := sortG_aux O xs [] [] List.Pairwise.nil (Stb.refl [])
  exact this
theorem sortG_uniq (O : Swo lt) {xs out : List α} (hs : Srtd lt out) (hb : Stb lt out xs) : out = sortG lt xs := by
  obtain ⟨h1, h2⟩ := sortG_ok O xs
  refine stb_uniq O hs h1 (hb.trans ⟨h2.perm.symm, fun x => (h2.cls x).symm⟩)
theorem insG_map {lt' : β → β → Bool} (f : α → β) (x : α) : ∀ (l : List α), (∀ y ∈ l, lt' (f x) (f y) = lt x y) → (insG lt x l).map f = insG lt' (f x) (l.map f)
  | [], _ => rfl
  | y :: r, h => by
    have e := h y (List.mem_cons_self ..)
    show (if lt x y = true then x :: y :: r else y :: insG lt x r).map f = if lt' (f x) (f y) = true then f x :: f y :: r.map f else f y :: insG lt' (f x) (r.map f)
    rw [e]
    cases lt x y with
    | true => rfl
    | false =>
      show f y :: (insG lt x r).map f = _
      rw [insG_map f x r fun z hz => h z (List.mem_cons_of_mem _ hz)]
      rfl
theorem insG_mem {x z : α} : ∀ {l : List α}, z ∈ insG lt x l → z = x ∨ z ∈ l
  | [], h => .inl (List.mem_singleton.mp h)
  | y :: r, h => by
    have h' : z ∈ (if lt x y = true then x :: y :: r else y :: insG lt x r) := h
    split at h'
    · exact List.mem_cons.mp h'
    · rcases List.mem_cons.mp h' with q | q
      · exact .inr (by rw [q]; exact List.mem_cons_self ..)
      · rcases insG_mem q with q | q
        · exact .inl q
        · exact .inr (List.mem_cons_of_mem _ q)
theorem sortG_map_aux {lt' : β → β → Bool} (f : α → β) : ∀ (xs acc : List α), (∀ x ∈ xs ++ acc, ∀ y ∈ xs ++ acc, lt' (f x) (f y) = lt x y) →
    (xs.foldl (fun acc x => insG lt x acc) acc).map f = (xs.map f).foldl (fun acc x => insG lt' x acc) (acc.map f)
  | [], acc, _ => rfl
  | x :: xs, acc, h => by
    show (xs.foldl (fun acc x => insG lt x acc) (insG lt x acc)).map f = (xs.map f).foldl (fun acc x => insG lt' x acc) (insG lt' (f x) (acc.map f))
    rw [← insG_map f x acc fun y hy => h x (by simp) y (by simp [hy])]
    refine sortG_map_aux f xs _ fun a ha b hb => h a ?_ b ?_
    · rcases List.mem_append.mp ha with q | q
      · simp [q]
      · rcases insG_mem q with q | q <;> simp [q]
    · rcases List.mem_append.mp hb with q | q
      · simp [q]
      · rcases insG_mem q with q | q <;> simp [q]
theorem sortG_map {lt' : β → β → Bool} (f : α → β) (xs : List α) (h : ∀ x ∈ xs, ∀ y ∈ xs, lt' (f x) (f y) = lt x y) : (sortG lt xs).map f = sortG lt' (xs.map f) :=
  sortG_map_aux f xs [] (by simpa using h)
theorem sortG_mem {z : α} {xs : List α} (O : Swo lt) : z ∈ sortG lt xs ↔ z ∈ xs := (sortG_ok O xs).2.perm.mem_iff
end
/-! ### the order of lists of ints -/
theorem lexI_asym : ∀ (x y : List Int), lexI x y = true → lexI y x = false
  | x, [], h => by cases x <;> simp [lexI] at h
  | [], _ :: _, _ => rfl
  | x :: xs, y :: ys, h => by
    unfold lexI at h ⊢
    by_cases e : x = y
    · subst e
      rw [if_pos rfl] at h ⊢
      exact lexI_asym xs ys h
    · rw [if_neg e] at h
      rw [if_neg (fun z => e z.symm)]
      have := of_decide_eq_true h
      exact decide_eq_false (by omega)
theorem lexI_tr : ∀ (x y z : List Int), lexI y x = false → lexI z y = false → lexI z x = false
  | [], y, z, _, _ => by cases z <;> rfl
  | x :: xs, [], z, h, _ => by cases h
  | x :: xs, y :: ys, [], _, h => by cases h
  | x :: xs, y :: ys, z :: zs, h1, h2 => by
    unfold lexI at h1 h2 ⊢
    by_cases e1 : y = x
    · subst e1
      rw [if_pos rfl] at h1
      by_cases e2 : z = y
      · subst e2
        rw [if_pos rfl] at h2 ⊢
        exact lexI_tr xs ys zs h1 h2
      · rw [if_neg e2] at h2 ⊢
        exact h2
    · rw [if_neg e1] at h1
      have h1 := of_decide_eq_false h1
      by_cases e2 : z = y
      · subst e2
        rw [if_neg e1]
        exact decide_eq_false h1
      · rw [if_neg e2] at h2
        have h2 := of_decide_eq_false h2
        rw [if_neg (show ¬ z = x by omega)]
        exact decide_eq_false (by omega)
theorem swo_by {α : Type} (k : α → List Int) : Swo fun v u => lexI (k v) (k u) := ⟨fun x y => lexI_asym _ _, fun x y z => lexI_tr _ _ _⟩
/-! ### data's rank -/
theorem lexN_I : ∀ (x y : List Nat), lexN x y = lexI (natsI x) (natsI y)
  | [], [] => rfl
  | _ :: _, [] => rfl
  | [], _ :: _ => rfl
  | x :: xs, y :: ys => by
    show (if x = y then lexN xs ys else Nat.blt x y) = if Int.ofNat x = Int.ofNat y then lexI (natsI xs) (natsI ys) else decide (Int.ofNat x < Int.ofNat y)
    rw [lexN_I xs ys]
    by_cases e : x = y
    · rw [if_pos e, if_pos (by rw [e])]
    · rw [if_neg e, if_neg (fun z => e (Int.ofNat.inj z)), Bool.eq_iff_iff, Nat.blt_eq]
      simp
end G
end

section
set_option Elab.async false
set_option linter.all false
set_option maxRecDepth 100000
set_option maxHeartbeats 4000000
/-! GS2: sorted(..), the model's part. By an AI agent. -/
namespace G
open PySem PySem.Spec PyProof.Rows L2 SrtO
section
variable {prog : Program} {w : World} {A : Around} {E : Value → Shared → Prop} {s : Shared}
/-- collecting an iterable's items -/
def Colls (prog : Program) (w : World) (hd : Option Value) (s : Shared) (l : Addr) (vs : List Value) : Prop := ∀ (A : Around) (E : Value → Shared → Prop) (R : List Value → Shared → Prop), A.handled = hd →
  (∀ (h' : Heap) (tk : Nat), (∀ b o, s.heap.get? b = some o → h'.get? b = some o) → R vs { s with heap := h', toks := tk }) → wpAny (model prog w) A (collect (.ref l)) R E s
theorem sorted_coll {l : Addr} {vs : List Value} {ltv : Value → Value → Bool} {Q : Value → Shared → Prop} (O : Swo ltv) (hz : vs.length ≤ sizeLine) (hc : Colls prog w A.handled s l vs)
    (hS : 2 ≤ vs.length → ∀ (h₁ : Heap) (tk : Nat) (a : Addr), h₁.get? a = some (seqObj "list" vs.toArray 0) → (∀ b o, s.heap.get? b = some o → b ≠ a ∧ h₁.get? b = some o) → SortableO prog w A.in1.in1 { s with heap := h₁, toks := tk } a vs ltv)
    (h : ∀ (h1 h' : Heap) (tk : Nat) (d : Addr) (out : List Value), Srtd ltv out → Stb ltv out vs → (∀ b o, s.heap.get? b = some o → h1.get? b = some o) → (∀ b o, h1.get? b = some o → h'.get? b = some o) → h1.objs.size ≤ d →
      (∃ n, h'.get? d = some (seqObj "list" out.toArray n)) → Q (.ref d) { s with heap := h', toks := tk }) :
    wpAny (model prog w) A (call (.builtin "sorted") [.ref l]) Q E s := by
  refine Calls.call_function_entry kind_sorted plain_sorted entry_sorted (args_sorted1 _) ?_
  unfold Builtin.«sorted»
  refine wpAny_bind (m := checkCount "sorted" 1 1 _) (wpAny_pure ?_)
  refine wpAny_bind (hc _ _ _ rfl fun h1 tk hk => ?_)
  refine wpAny_bind (wpAny_newList ?_ hz)
  have hoL : (h1.push (seqObj "list" vs.toArray 0)).get? h1.objs.size = some (seqObj "list" vs.toArray 0) := Heap.get?_push_size _ rfl
  have keep : ∀ b o, s.heap.get? b = some o → b ≠ h1.objs.size ∧ (h1.push (seqObj "list" vs.toArray 0)).get? b = some o := fun b o q =>
    ⟨Nat.ne_of_lt (Heap.lt_size (hk b o q)), Heap.get?_push_of_some _ (hk b o q)⟩
  show wpAny _ _ _ _ _ { s with heap := h1.push (seqObj "list" vs.toArray 0), toks := tk }
  refine wpAny_bind (wpAny_holding (wpAny_call_entry slot_list_sort ⟨_, hoL, rfl⟩ entry_list_sort (list_sort_ord O hoL hz (fun h2 => hS h2 _ _ _ hoL keep) fun out hs hb => ⟨_, rfl, ?_⟩) (args_list_sort _)))
  refine wpAny_pure ⟨_, rfl, h h1 _ tk _ out hs hb hk (fun b o q => ?_) (Nat.le_refl _) (sortedHeap_at hoL)⟩
  rw [sortedHeap_old (Nat.ne_of_lt (Heap.lt_size q)) (by rw [size_push']; exact Nat.lt_succ_of_lt (Heap.lt_size q))]
  exact Heap.get?_push_of_some _ q
theorem colls_list {l : Addr} {vs : List Value} (hl : s.heap.IsList l vs.toArray) (hz : vs.length ≤ sizeLine) : Colls prog w A.handled s l vs := by
  intro A' E' R _ h
  refine collect_list hl ?_ hz
  refine h _ _ fun b o q => ?_
  rw [Heap.get?_update_ne _ _ _ _ (Nat.ne_of_lt (Heap.lt_size q))]
  exact Heap.get?_push_of_some _ q
theorem colls_tuple {l : Addr} {vs : List Value} (hl : s.heap.IsTuple l vs.toArray) (hsz : vs.length ≤ sizeLine) : Colls prog w A.handled s l vs := by
  intro A' E' R _ h
  obtain ⟨o, ho, hc, n, hd⟩ := id hl
  unfold collect
  refine wpAny_bind (wpAny_runValue (codeAny_builtin entry_proto_collect' ?_))
  show wpAny _ _ (do again (.builtin "list.__iadd__" ⟨[← newList [], .ref l], []⟩)) _ _ s
  refine wpAny_bind (wpAny_newList (wpAny_pure ⟨Code.quiet_builtin _ (by decide +kernel), codeAny_builtin entry_list_iadd' ?_⟩))
  show wpAny _ _ (Builtin.List.listExtendWith (.ref s.heap.objs.size) (.ref l) (.ref s.heap.objs.size)) _ _ { s with heap := s.heap.push (seqObj "list" #[] 0) }
  unfold Builtin.List.listExtendWith
  have ho' : (s.heap.push (seqObj "list" #[] 0)).get? l = some o := Heap.get?_push_of_some _ ho
  refine wpAny_bind (wpAny_typeOf (T := "tuple") ⟨o, ho', hc⟩ ?_)
  have ht : (Value.type "tuple" == Value.type "tuple") = true := by rfl
  rw [if_pos (by rw [ht]; simp)]
  refine wpAny_bind (listItems_at ho' hd ?_)
  refine wpAny_bind (listItems_at (xs := #[]) (n := 0) (Heap.get?_push_size _ rfl) rfl ?_)
  rw [if_neg (by simp)]
  refine wpAny_bind (listUpdate_at (xs := #[]) (n := 0) (Heap.get?_push_size _ rfl) rfl ?_ (Nat.zero_le _) (by show (#[] ++ vs.toArray).size ≤ sizeLine + 1; simp only [Array.size_append, List.size_toArray, List.length_nil]; omega))
  refine wpAny_pure ?_
  show wpAny (model prog w) A' (do
      let o ← load s.heap.objs.size
      match o.data with
      | .seq xs _ => pure xs.toList
      | _ => unsupported "internal:collect") R E' { s with heap := (s.heap.push (seqObj "list" #[] 0)).update s.heap.objs.size (Obj.mapSeq (· ++ vs.toArray)) }
  refine wpAny_bind (wpAny_load (get?_update_seq (Heap.get?_push_size _ rfl) _) ?_)
  show wpAny _ _ (pure ((#[] : Array Value) ++ vs.toArray).toList) R E' _
  rw [show ((#[] : Array Value) ++ vs.toArray).toList = vs by simp]
  refine wpAny_pure (h _ _ fun b o q => ?_)
  rw [Heap.get?_update_ne _ _ _ _ (Nat.ne_of_lt (Heap.lt_size q))]
  exact Heap.get?_push_of_some _ q
theorem colls_dict {d : Addr} {o : Obj} {es : Array DictEntry} {ep : Nat} (lo : (d == sysModules) = false) (ho : s.heap.get? d = some o) (hx : o.ExactDict) (hd : o.data = .dict es ep) (hz : es.size ≤ sizeLine) (hh : A.handled = none) :
    Colls prog w A.handled s d (es.toList.map (·.key)) := by
  intro A' E' R he h
  refine PySem.W.kdu_collect (L2.kdl_raw lo hx hd) (he.trans hh) ho hz fun h' tk acc hk hi => ?_
  have e : acc.toList = es.toList.map (·.key) := by
    obtain ⟨h1, h2⟩ := hi
    refine List.ext_getElem? fun j => ?_
    by_cases hj : j < es.size
    · have e1 : acc.toList[j]? = some acc[j] := by rw [Array.getElem?_toList]; exact Array.getElem?_eq_getElem (by omega)
      obtain ⟨en, a1, a2⟩ := h2 j acc[j] (by rw [← Array.getElem?_toList]; exact e1)
      rw [e1, List.getElem?_map, Array.getElem?_toList, a1, a2]
      rfl
    · rw [List.getElem?_eq_none (by simp; omega), List.getElem?_eq_none (by simp; omega)]
  rw [e]
  exact h h' tk hk
end
end G
end

section
set_option Elab.async false
set_option linter.all false
set_option maxRecDepth 100000
set_option maxHeartbeats 4000000
/-! GS3: sorted(..): ints, texts, tuples of ints. By an AI agent. -/
namespace G
open PySem PySem.Spec PyProof.Rows L2 SrtO
variable [Cold]
/-- a value's rank at a heap -/
def kOf (h : Heap) : Value → List Int
  | .int i _ => [i]
  | .str x _ => natsI x.cps.toList
  | .ref a => match h.get? a with
    | some o => match o.data with
      | .seq its _ => its.toList.map SrtO.iv
      | _ => []
    | none => []
  | _ => []
section
variable {prog : Program} {w : World} {A : Around} {E : Value → Shared → Prop} {s : Shared}
/-- a tuple of ints -/
def IsTI (h : Heap) (v : Value) (ns : List Int) : Prop := ∃ p its, v = .ref p ∧ PyProof.Rows.IsTup h p its ∧ IntsAre its.toList ns
theorem IsTI.kOf {h : Heap} {v : Value} {ns : List Int} (t : IsTI h v ns) : G.kOf h v = ns := by
  obtain ⟨p, its, rfl, ⟨o, ho, _, n, hd⟩, hi⟩ := t
  unfold G.kOf
  dsimp only
  rw [ho]
  dsimp only
  rw [hd]
  exact SrtO.iv_ints hi
theorem oneLt_I (c : Bool) {p q : Int} {t u : Tok} {Q : Bool → Shared → Prop} (h : Q (decide (p < q)) s) : wpAny (model prog w) A (oneLt' c (.int p t) (.int q u)) Q E s := by
  cases c with
  | true => exact oneLt_int h
  | false => exact PySem.W.kat_one _ _ (PyProof.Rows.lt_int h)
theorem kat_ints : ∀ (xs ys : List Value) (ns ms : List Int) (i : Nat) (fin : Bool) (Q : Bool → Shared → Prop), IntsAre xs ns → IntsAre ys ms → fin = decide (ns.length < ms.length) → Q (lexI ns ms) s →
    PySem.W.KatLex prog w A true fin Q (xs.zip ys) i s
  | [], ys, ns, ms, i, fin, Q, hx, hy, hf, q => by
    cases hx
    rw [List.zip_nil_left]
    refine PySem.W.kat_nil ?_
    rw [hf]
    cases ms with
    | nil => exact q
    | cons m ms => exact q
  | x :: xs, [], ns, ms, i, fin, Q, hx, hy, hf, q => by
    cases hy
    rw [List.zip_nil_right]
    refine PySem.W.kat_nil ?_
    rw [hf]
    cases ns with
    | nil => exact q
    | cons m ms => exact q
  | x :: xs, y :: ys, ns, ms, i, fin, Q, hx, hy, hf, q => by
    cases hx with
    | cons a t hx' =>
      cases hy with
      | cons c u hy' =>
        rw [List.zip_cons_cons]
        refine PySem.W.kat_cons (SeqAt.EqAt.int_int a t c u prog w _ _ ?_)
        refine PySem.W.kat_go (fun e1 => ?_) (fun e1 => ?_)
        · have ex : a = c := by simpa using e1
          refine PySem.W.kat_yes (kat_ints xs ys _ _ _ _ _ hx' hy' (by rw [hf]; simp) ?_)
          unfold lexI at q
          rw [if_pos ex] at q
          exact q
        · have ex : ¬ a = c := by simpa using e1
          refine PySem.W.kat_no (oneLt_I _ ?_)
          unfold lexI at q
          rw [if_neg ex] at q
          exact q
theorem oneLt_ti {b : Bool} {v u : Value} {ns ms : List Int} {Q : Bool → Shared → Prop} (hu : A.units < cLine) (hv : IsTI s.heap v ns) (hw : IsTI s.heap u ms) (h : Q (lexI ns ms) s) : wpAny (model prog w) A (oneLt' b v u) Q E s := by
  obtain ⟨p, its, rfl, tp, hi⟩ := hv
  obtain ⟨p2, its2, rfl, tp2, hj⟩ := hw
  rw [lexI_lt] at h
  rw [oneLt'_eq]
  cases b with
  | false =>
    simp only [Bool.false_eq_true, if_false]
    refine wpAny_bind ?_
    exact HT.lt_tupInts (Q := fun v s' => wpAny (model prog w) A (truthOfDropped v) Q E s') tp tp2 hi hj hu (wpAny_truthy_bool h)
  | true =>
    simp only [if_true]
    refine wpAny_bind (wpAny_cRoomFor hu ?_)
    obtain ⟨⟨cls, dd, data, sl⟩, ho, hc, n, hd⟩ := id tp
    obtain ⟨⟨cls2, dd2, data2, sl2⟩, ho2, hc2, n2, hd2⟩ := id tp2
    simp only at hc hd hc2 hd2
    subst hc hd hc2 hd2
    refine wpAny_bind (wpAny_callSpecialIfBound?_slot (T := "tuple") (id := "tuple.__lt__") ⟨_, ho, rfl⟩ PySem.F.slot_tuple_lt ?_)
    refine call_meets PySem.F.slot_tuple_lt (self := .ref p) (rest := [.ref p2]) ⟨_, ho, rfl⟩ PySem.F.entry_tuple_lt (PySem.F.args_tuple_lt_2 _ _) (HT.tuple_lt_ints p p2 its its2 n n2 dd dd2 sl sl2 ns ms hi hj) ⟨ho, ho2, ?_⟩
    exact wpAny_truthy_bool h
/-- what list.sort sees first -/
theorem firstsO : ∀ (vs : List Value) (os : List (Option Value)) {M : Model} {Q : List (Option Value) → Shared → Prop}, Paired (fun v o => ∃ p its, v = .ref p ∧ PyProof.Rows.IsTup s.heap p its ∧ its[0]? = o) vs os → Q os s → wpAny M A (vs.mapM firstOfTuple') Q E s
  | _, _, M, Q, .nil, h => by rw [List.mapM_nil]; exact wpAny_pure h
  | _, _, M, Q, @Paired.cons _ _ _ v o vs os hv t, h => by
    obtain ⟨p, its, rfl, ⟨ob, ho, hc, n, hd⟩, hf⟩ := hv
    rw [List.mapM_cons]
    refine wpAny_bind ?_
    rw [PySem.W.kas_first_eq]
    refine wpAny_bind (PySem.W.Looks.here (show PySem.W.Looks M s.heap (typeOf (.ref p)) ob.cls from (PySem.W.Looks.ld ho).andThen .now) ?_)
    rw [hc, if_neg (by first | decide | simp)]
    refine wpAny_bind (listItems_at ho hd (wpAny_pure ?_))
    rw [hf]
    exact wpAny_bind (firstsO vs os (Q := fun bs s' => wpAny M A (pure (o :: bs)) Q E s') t (wpAny_pure h))
/-- the items of a sort: all ints | all texts | all tuples of ints, the first empty or none -/
inductive SItems (h : Heap) (vs : List Value) : Prop where
  | sI (ns : List Int) (hi : IntsAre vs ns)
  | sS (ss : List Str) (hi : StrsAre vs ss)
  | sT (hv : ∀ v ∈ vs, ∃ ns, IsTI h v ns ∧ ns ≠ [])
  | sE (hv : ∀ v ∈ vs, ∃ ns, IsTI h v ns) (h0 : ∃ v r, vs = v :: r ∧ IsTI h v [])
theorem IsTI.keeps {h h' : Heap} {v : Value} {ns : List Int} (t : IsTI h v ns) (k : ∀ b o, h.get? b = some o → o.cls = .type "tuple" → h'.get? b = some o) : IsTI h' v ns := by
  obtain ⟨p, its, rfl, ⟨o, ho, hc, n, hd⟩, hi⟩ := t
  exact ⟨p, its, rfl, ⟨o, k _ _ ho hc, hc, n, hd⟩, hi⟩
theorem ti_first {h : Heap} {v : Value} {ns : List Int} (t : IsTI h v ns) : ∃ p its, v = .ref p ∧ PyProof.Rows.IsTup h p its ∧ (its[0]? = none ↔ ns = []) ∧ ∀ f, its[0]? = some f → ∃ i t, f = .int i t := by
  obtain ⟨p, its, rfl, tp, hi⟩ := t
  refine ⟨p, its, rfl, tp, ?_, fun f hf => ?_⟩
  · have := hi.length
    constructor
    · intro z
      have z2 : its.size ≤ 0 := by simpa using z
      cases ns with
      | nil => rfl
      | cons _ _ => simp at this; omega
    · intro z
      subst z
      have z2 : its.size = 0 := by simpa using this
      simp [z2]
  · have hm : f ∈ its.toList := List.mem_of_getElem? (i := 0) (by rw [Array.getElem?_toList]; exact hf)
    exact SrtO.ints_mem hi f hm
theorem str_cmp {vs : List Value} {ss : List Str} {h : Heap} (hI : StrsAre vs ss) : Cmp prog w A s oneType' (fun p => p.1 ∈ vs) (lt2 fun v u => lexI (kOf h v) (kOf h u)) := by
  intro p q hm hm'
  obtain ⟨a, t, e⟩ := hI.all _ hm
  obtain ⟨b, u, e'⟩ := hI.all _ hm'
  show wpAny (model prog w) A (keyLt' oneType' p.1 q.1) (fun r s' => s' = s ∧ r = lexI (kOf h p.1) (kOf h q.1)) (fun _ _ => False) s
  rw [e, e', keyLt'_oneType]
  refine oneLt_str ⟨rfl, ?_⟩
  show _ = lexI (natsI a.cps.toList) (natsI b.cps.toList)
  rw [← lexN_I, lexN_lt]
theorem sortable {a : Addr} {vs : List Value} {h : Heap} (hS : SItems h vs) (h2 : 2 ≤ vs.length) (hu : A.units < cLine) (hk : ∀ b o, h.get? b = some o → b ≠ a → s.heap.get? b = some o) (ha : ∀ o, s.heap.get? a = some o → o.cls ≠ .type "tuple") (hb : ∀ b o, h.get? b = some o → b ≠ a) :
    SortableO prog w A s a vs fun v u => lexI (kOf h v) (kOf h u) := by
  intro h' keep
  have kk : ∀ b o, h.get? b = some o → o.cls = .type "tuple" → h'.get? b = some o := fun b o e _ => keep b o (hb b o e) (hk b o e (hb b o e))
  cases hS with
  | sI ns hi =>
    obtain ⟨κ, h3, h4⟩ := SrtO.ints_sortable (prog := prog) (w := w) (A := A) (s := s) (a := a) hi h2 h' keep
    refine ⟨κ, h3, ?_⟩
    intro p q hm hm'
    have := h4 p q hm hm'
    obtain ⟨i, t, e⟩ := SrtO.ints_mem hi _ hm
    obtain ⟨j, t', e'⟩ := SrtO.ints_mem hi _ hm'
    have ee : lt2 SrtO.ltIv p q = lt2 (fun v u => lexI (kOf h v) (kOf h u)) p q := by
      show SrtO.ltIv p.1 q.1 = lexI (kOf h p.1) (kOf h q.1)
      rw [e, e']
      show decide (i < j) = if i = j then false else decide (i < j)
      by_cases z : i = j
      · rw [if_pos z]; exact decide_eq_false (by omega)
      · rw [if_neg z]
    rw [← ee]
    exact this
  | sS ss hi =>
    refine ⟨oneType', fun Q E hq => ?_, str_cmp hi⟩
    match vs, hi, h2 with
    | v1 :: v2 :: rest, hi, _ =>
      rw [keyKind_strs hi]
      exact wpAny_pure hq
    | [], _, h => exact absurd h (by decide)
    | [v], _, h => exact absurd h (by simp)
  | sT hv =>
    have tup : ∀ (l : List Value), (∀ v ∈ l, ∃ ns, IsTI h v ns ∧ ns ≠ []) → ∃ fs, PySem.W.KatTups h' l fs ∧ fs.length = l.length ∧ ∀ f ∈ fs, ∃ i t, f = Value.int i t := by
      intro l
      induction l with
      | nil => intro _; exact ⟨[], PySem.W.KatTups.nil, rfl, fun _ h => (nomatch h)⟩
      | cons v l ih =>
        intro hl
        obtain ⟨fs, f1, f2, f3⟩ := ih fun v hv => hl v (List.mem_cons_of_mem _ hv)
        obtain ⟨ns, t, hn⟩ := hl v (List.mem_cons_self ..)
        obtain ⟨p, its, rfl, ⟨o, ho, hc, n, hd⟩, g1, g2⟩ := ti_first (t.keeps kk)
        cases e : its[0]? with
        | none => exact absurd (g1.mp e) hn
        | some f =>
          refine ⟨f :: fs, PySem.W.KatTups.cons ho hc hd e f1, by simp [f2], fun z hz => ?_⟩
          rcases List.mem_cons.mp hz with q | q
          · rw [q]; exact g2 f e
          · exact f3 z q
    obtain ⟨fs, t1, t2, t3⟩ := tup vs hv
    refine ⟨tuples' true, fun Q E hq => ?_, ?_⟩
    · refine PySem.W.kat_kind (T := .type "int") t1 (by omega) (fun f hm => ?_) (by rfl) ?_
      · obtain ⟨x, t, rfl⟩ := t3 f hm
        exact PySem.W.Looks.now
      · have e : (Value.type "int" != Value.type "tuple") = true := by first | decide +kernel | rfl | decide
        rw [e]
        exact hq
    · intro p q hm hm'
      obtain ⟨ns, t, _⟩ := hv _ hm
      obtain ⟨ms, t', _⟩ := hv _ hm'
      show wpAny (model prog w) A (keyLt' (tuples' true) p.1 q.1) (fun r s' => s' = { s with heap := h' } ∧ r = lexI (kOf h p.1) (kOf h q.1)) (fun _ _ => False) { s with heap := h' }
      rw [t.kOf, t'.kOf]
      obtain ⟨x, its, e, ⟨o, ho, hc, n, hd⟩, hi⟩ := t.keeps kk
      obtain ⟨y, its', e', ⟨o', ho', hc', n', hd'⟩, hi'⟩ := t'.keeps kk
      rw [e, e']
      refine PySem.W.kat_lt ho hd ho' hd' (kat_ints _ _ ns ms 0 _ _ hi hi' ?_ ⟨rfl, rfl⟩)
      have z1 := hi.length
      have z2 := hi'.length
      simp only [Array.length_toList] at z1 z2
      rw [z1, z2]
  | sE hv h0 =>
    have tup : ∀ (l : List Value), (∀ v ∈ l, ∃ ns, IsTI h v ns) → ∃ os, Paired (fun v o => ∃ p its, v = Value.ref p ∧ PyProof.Rows.IsTup h' p its ∧ its[0]? = o) l os := by
      intro l
      induction l with
      | nil => intro _; exact ⟨[], .nil⟩
      | cons v l ih =>
        intro hl
        obtain ⟨fs, f1⟩ := ih fun v hv => hl v (List.mem_cons_of_mem _ hv)
        obtain ⟨ns, t⟩ := hl v (List.mem_cons_self ..)
        obtain ⟨p, its, rfl, tp, _, _⟩ := ti_first (t.keeps kk)
        exact ⟨its[0]? :: fs, .cons ⟨p, its, rfl, tp, rfl⟩ f1⟩
    obtain ⟨v0, r0, rfl, t0⟩ := h0
    obtain ⟨os, ho⟩ := tup r0 fun v hv' => hv v (List.mem_cons_of_mem _ hv')
    obtain ⟨p0, its0, e0, tp0, g0, _⟩ := ti_first (t0.keeps kk)
    refine ⟨oneType', fun Q E hq => ?_, ?_⟩
    · rw [PyProof.Rows.kat_kind_eq, List.mapM_toArray, map_eq_pure_bind]
      refine wpAny_bind (wpAny_bind (firstsO (s := { s with heap := h' }) (v0 :: r0) (none :: os) (.cons ⟨p0, its0, e0, tp0, g0.mpr rfl⟩ ho) (wpAny_pure ?_)))
      have hall : ((none :: os).toArray.all fun x => x.isSome) = false := by simp
      rw [if_neg (by rw [hall]; exact Bool.false_ne_true)]
      have hb0 : (((none :: os).toArray[0]?).bind id).isSome = false := by simp
      rw [if_neg (by rw [hb0]; exact Bool.false_ne_true)]
      rw [oneTypeOnly'_eq, List.mapM_toArray, map_eq_pure_bind]
      have hT : ∀ v ∈ v0 :: r0, PySem.W.Looks (model prog w) h' (typeOf v) (.type "tuple") := fun v hv' => by
        obtain ⟨ns, t⟩ := hv v hv'
        obtain ⟨p, its, rfl, ⟨o, ho, hc, n, hd⟩, _⟩ := t.keeps kk
        exact hc ▸ (PySem.W.Looks.ld ho).andThen .now
      refine wpAny_bind (wpAny_bind (wpAny_bind (PySem.W.kas_mapM (r := Value.type "tuple") _ (fun v hv' Q' hq' => (hT v hv').here hq') (wpAny_pure ?_))))
      have hall2 : ((List.map (fun _ => Value.type "tuple") (v0 :: r0)).toArray.all fun x => x == Value.type "tuple") = true := by
        simp only [List.all_toArray, List.all_map, List.all_eq_true]
        intro _ _
        rfl
      have h00 : (List.map (fun _ => Value.type "tuple") (v0 :: r0)).toArray[0]? = some (Value.type "tuple") := by simp
      rw [h00]
      simp only [hall2, if_true]
      exact wpAny_pure (wpAny_pure hq)
    · intro p q hm hm'
      obtain ⟨ns, t⟩ := hv _ hm
      obtain ⟨ms, t'⟩ := hv _ hm'
      show wpAny (model prog w) A (keyLt' oneType' p.1 q.1) (fun r s' => s' = { s with heap := h' } ∧ r = lexI (kOf h p.1) (kOf h q.1)) (fun _ _ => False) { s with heap := h' }
      rw [t.kOf, t'.kOf, keyLt'_oneType]
      exact oneLt_ti hu (t.keeps kk) (t'.keeps kk) ⟨rfl, rfl⟩
end
end G
end

section
set_option Elab.async false
set_option linter.all false
set_option maxRecDepth 100000
set_option maxHeartbeats 4000000
/-! GS4: sorted(..), list(..), by data. By an AI agent. -/
namespace G
open PySem PySem.Spec PyProof.Rows L2 SrtO
variable [Cold]
/-- the items of an iterable -/
def src (K : PySem.W.Frag) (H : Hp) (a : Addr) (P : List V → Prop) : Prop := (∃ us, (SqL K H a us ∨ SqT K H a us) ∧ P us) ∨ (∃ kvs : List (Key × V), Rd H a (.dK kvs) ∧ P (kvs.map fun kv => kV kv.1)) ∨
  ∃ kvs : List (List Key × V), Rd H a (.dT kvs) ∧ ∀ bs, IsKeys H kvs bs → P (bs.map V.ref)
section
variable {K : PySem.W.Frag} {N : Nm} {ρ : Pl} {S : Store} {H : Hp}
theorem rep_keysK : ∀ {kvs : List (D × D)} {q : List (Key × V)}, RepK K kD ρ H kvs q → RepL K ρ H (kvs.map (·.1)) (q.map fun kv => kV kv.1)
  | [], q, h => by rw [show q = [] from h]; exact rfl
  | (x, d) :: r, q, h => by
    obtain ⟨k, v, q', rfl, hk, _, hr⟩ := h
    refine ⟨_, _, rfl, ?_, rep_keysK hr⟩
    cases x with
    | int i => cases hk; exact rfl
    | str z => cases hk; exact rfl
    | _ => cases hk
theorem rep_kDs : ∀ {xs : List D} {ks : List Key}, kDs xs = some ks → RepL K ρ H xs (ks.map kV)
  | [], ks, h => by cases h; exact rfl
  | x :: xs, ks, h => by
    unfold kDs at h
    split at h
    · rename_i k ks' h1 h2
      cases h
      refine ⟨_, _, rfl, ?_, rep_kDs h2⟩
      cases x with
      | int i => cases h1; exact rfl
      | str z => cases h1; exact rfl
      | _ => cases h1
    · cases h
theorem rep_keysT : ∀ {kvs : List (D × D)} {q : List (List Key × V)} {bs : List Addr}, RepK K kT ρ H kvs q → IsKeys H q bs → RepL K ρ H (kvs.map (·.1)) (bs.map V.ref)
  | [], q, bs, h, i => by
    rw [show q = [] from h] at i
    cases i
    exact rfl
  | (x, d) :: r, q, bs, h, i => by
    obtain ⟨k, v, q', rfl, hk, _, hr⟩ := h
    cases i with
    | cons i1 i2 =>
      refine ⟨_, _, rfl, ?_, rep_keysT hr i2⟩
      cases x with
      | tup ys => exact ⟨_, _, rfl, ⟨SqT.of i1, fun _ => i1⟩, rep_kDs hk⟩
      | _ => cases hk
theorem src_of {d : D} {u : V} {xs : List D} {P : List V → Prop} (R : Rel K N ρ S H) (rx : Rep K ρ H d u) (e : itemsOf S d = some xs) (h : ∀ us, RepL K ρ H xs us → P us) : ∃ a, u = .ref a ∧ src K H a P := by
  unfold itemsOf at e
  split at e
  · rename_i kvs hp
    cases e
    obtain ⟨a, rfl, hh⟩ := prs_rep R rx hp
    rcases hh with ⟨q, h1, h2⟩ | ⟨q, h1, h2⟩
    · exact ⟨a, rfl, .inr (.inl ⟨q, h1, h _ (rep_keysK h2)⟩)⟩
    · exact ⟨a, rfl, .inr (.inr ⟨q, h1, fun bs hb => h _ (rep_keysT h2 hb)⟩)⟩
  · unfold seqOf at e
    split at e
    · rename_i ws ez
      cases e
      obtain ⟨a, vs, rfl, h1, h2⟩ := rd_lst R rx ez
      exact ⟨a, rfl, .inl ⟨vs, .inl (SqL.of h1), h _ h2⟩⟩
    · rename_i ws ez
      cases e
      rw [rd_tup ez] at rx
      obtain ⟨a, vs, rfl, h1, h2⟩ := rx
      exact ⟨a, rfl, .inl ⟨vs, .inr h1.1, h _ h2⟩⟩
    · cases e
end
/-! ### sorted by ranks -/
inductive VItems (K : PySem.W.Frag) (H : Hp) (zs : List (V × List Int)) : Prop where
  | sI (h : ∀ z ∈ zs, ∃ i, z = (.int i, [i]))
  | sS (h : ∀ z ∈ zs, ∃ x, z = (.str x, natsI x.cps.toList))
  | sT (h : ∀ z ∈ zs, ∃ p ns, z = (.ref p, ns) ∧ SqT K H p (ns.map V.int) ∧ ns ≠ [])
  | sE (h : ∀ z ∈ zs, ∃ p ns, z = (.ref p, ns) ∧ SqT K H p (ns.map V.int)) (h0 : ∃ v r, zs = (v, []) :: r)
abbrev ltZ (x y : V × List Int) : Bool := lexI x.2 y.2
def rSortG (K : PySem.W.Frag) : List V → Hp → VK → Prop := fun xs H Q => ∃ a, xs = [V.ref a] ∧ src K H a fun us => ∃ zs, us = zs.map Prod.fst ∧ VItems K H zs ∧ ∀ p, H p = none → Q (.ref p) (upd H p (.lst ((sortG ltZ zs).map Prod.fst)))
section
variable {X : Cx} {pins : List (Addr × Obj)} {σ : L2.St} {H : Hp} {s : Shared}
theorem zs_get {zs : List (V × List Int)} {vs : List Value} (r : Vals (zs.map Prod.fst) vs) : ∀ v ∈ vs, ∃ z ∈ zs, RelV z.1 v := by
  induction zs generalizing vs with
  | nil => cases r; intro v h; exact (nomatch h)
  | cons z zs ih =>
    cases r with
    | cons h t =>
      intro v hv
      rcases List.mem_cons.mp hv with q | q
      · exact ⟨_, List.mem_cons_self .., by rw [q]; exact h⟩
      · obtain ⟨u, h1, h2⟩ := ih t v q
        exact ⟨u, List.mem_cons_of_mem _ h1, h2⟩
theorem sitems_of {zs : List (V × List Int)} {vs : List Value} (I : Inv X pins σ H s) (r : Vals (zs.map Prod.fst) vs) (vi : VItems X.K H zs) : SItems s.heap vs ∧ ∀ z v, z ∈ zs → RelV z.1 v → kOf s.heap v = z.2 := by
  have ti : ∀ (p : Addr) (ns : List Int) (v : Value), SqT X.K H p (ns.map V.int) → RelV (.ref p) v → IsTI s.heap v ns := by
    intro p ns v hs hr
    obtain ⟨its, rv, tp, _⟩ := I.tuple hs
    exact ⟨p, its.toArray, hr, tp, by simpa using intsAre_of rv⟩
  cases vi with
  | sI h =>
    refine ⟨.sI (vs.map SrtO.iv) (SrtO.ints_iv fun v hv => ?_), fun u v hu hr => ?_⟩
    · obtain ⟨u, hu, hr⟩ := zs_get r v hv
      obtain ⟨i, rfl⟩ := h u hu
      obtain ⟨t, rfl⟩ := hr
      exact ⟨i, t, rfl⟩
    · obtain ⟨i, rfl⟩ := h u hu
      obtain ⟨t, rfl⟩ := hr
      rfl
  | sS h =>
    refine ⟨.sS _ (strsAre_map vs fun v hv => ?_), fun u v hu hr => ?_⟩
    · obtain ⟨u, hu, hr⟩ := zs_get r v hv
      obtain ⟨i, rfl⟩ := h u hu
      obtain ⟨t, rfl⟩ := hr
      exact ⟨i, t, rfl⟩
    · obtain ⟨i, rfl⟩ := h u hu
      obtain ⟨t, rfl⟩ := hr
      rfl
  | sT h =>
    refine ⟨.sT fun v hv => ?_, fun u v hu hr => ?_⟩
    · obtain ⟨u, hu, hr⟩ := zs_get r v hv
      obtain ⟨p, ns, rfl, hs, hn⟩ := h u hu
      exact ⟨ns, ti p ns v hs hr, hn⟩
    · obtain ⟨p, ns, rfl, hs, _⟩ := h u hu
      exact (ti p ns v hs hr).kOf
  | sE h h0 =>
    refine ⟨.sE (fun v hv => ?_) ?_, fun u v hu hr => ?_⟩
    · obtain ⟨u, hu, hr⟩ := zs_get r v hv
      obtain ⟨p, ns, rfl, hs⟩ := h u hu
      exact ⟨ns, ti p ns v hs hr⟩
    · obtain ⟨u, r', rfl⟩ := h0
      cases r with
      | cons r1 r2 =>
        obtain ⟨p, ns, e, hs⟩ := h (u, []) (List.mem_cons_self ..)
        cases e
        exact ⟨_, _, rfl, ti p [] _ hs r1⟩
    · obtain ⟨p, ns, rfl, hs⟩ := h u hu
      exact (ti p ns v hs hr).kOf
theorem vals_zip {us : List (V × List Int)} {vs : List Value} (r : Vals (us.map Prod.fst) vs) : (us.zip vs).map Prod.fst = us ∧ (us.zip vs).map Prod.snd = vs ∧ ∀ z ∈ us.zip vs, RelV z.1.1 z.2 := by
  induction us generalizing vs with
  | nil => cases r; exact ⟨rfl, rfl, fun _ h => (nomatch h)⟩
  | cons u us ih =>
    cases r with
    | cons h t =>
      obtain ⟨a, b, c⟩ := ih t
      refine ⟨by simp [a], by simp [b], fun z hz => ?_⟩
      rcases List.mem_cons.mp (by simpa using hz) with q | q
      · rw [q]; exact h
      · exact c z q
theorem zip_vals : ∀ (l : List ((V × List Int) × Value)), (∀ z ∈ l, RelV z.1.1 z.2) → Vals ((l.map Prod.fst).map Prod.fst) (l.map Prod.snd)
  | [], _ => .nil
  | z :: l, h => .cons (h z (List.mem_cons_self ..)) (zip_vals l fun y hy => h y (List.mem_cons_of_mem _ hy))
theorem vals_sort {zs : List (V × List Int)} {vs : List Value} {kv : Value → List Int} (r : Vals (zs.map Prod.fst) vs) (h : ∀ z v, z ∈ zs → RelV z.1 v → kv v = z.2) :
    Vals ((sortG ltZ zs).map Prod.fst) (sortG (fun v u => lexI (kv v) (kv u)) vs) := by
  obtain ⟨a, b, c⟩ := vals_zip r
  have hm : ∀ z ∈ zs.zip vs, kv z.2 = z.1.2 := fun z hz => h z.1 z.2 (by have := List.mem_map_of_mem (f := Prod.fst) hz; rw [a] at this; exact this) (c z hz)
  have e1 := sortG_map (lt := fun x y : (V × List Int) × Value => lexI x.1.2 y.1.2) (lt' := ltZ) Prod.fst (zs.zip vs) fun x _ y _ => rfl
  have e2 := sortG_map (lt := fun x y : (V × List Int) × Value => lexI x.1.2 y.1.2) (lt' := fun v u => lexI (kv v) (kv u)) Prod.snd (zs.zip vs) fun x hx y hy => by rw [hm x hx, hm y hy]
  rw [a] at e1
  rw [b] at e2
  rw [← e1, ← e2]
  exact zip_vals _ fun z hz => c z ((sortG_mem (swo_by fun x : (V × List Int) × Value => x.1.2)).mp hz)
theorem sort_one {a : Addr} {zs : List (V × List Int)} {vs : List Value} {Q : VK} (hu : X.A.units + 4 < cLine) (I : Inv X pins σ H s) (r : Vals (zs.map Prod.fst) vs) (hz : zs.length ≤ sizeLine) (hc : Colls X.prog X.w X.A.handled s a vs) (vi : VItems X.K H zs)
    (q : ∀ p, H p = none → Q (.ref p) (upd H p (.lst ((sortG ltZ zs).map Prod.fst)))) : wpAny (model X.prog X.w) X.A (call (.builtin "sorted") [.ref a]) (EP X pins σ Q) X.xe s := by
  obtain ⟨si, hk⟩ := sitems_of I r vi
  have hl : vs.length = zs.length := by have := Paired.length r; simpa using this.symm
  refine sorted_coll (swo_by (kOf s.heap)) (by rw [hl]; exact hz) hc (fun h2 h₁ tk d hd kk => ?_) fun h1 h' tk d out hs hb k1 k2 hd ho => ?_
  · refine sortable si h2 (show X.A.in1.in1.units < cLine from ?_) (fun b o e _ => (kk b o e).2) (fun o e => ?_) fun b o e => (kk b o e).1
    · show X.A.units + 1 + 1 < cLine
      omega
    · have e' : some o = some (seqObj "list" vs.toArray 0) := e.symm.trans hd
      cases e'
      intro c
      exact absurd (Value.type.inj c) (by decide)
  · have eo : out = sortG (fun v u => lexI (kOf s.heap v) (kOf s.heap u)) vs := sortG_uniq (swo_by (kOf s.heap)) hs hb
    have rv : Vals ((sortG ltZ zs).map Prod.fst) out := by rw [eo]; exact vals_sort r hk
    have I1 : Inv X pins σ H { s with heap := h1, toks := tk } := I.kept k1
    obtain ⟨n, ho⟩ := ho
    have hlen : ((sortG ltZ zs).map Prod.fst).length ≤ sizeLine := by
      rw [List.length_map, (sortG_ok (swo_by fun z : V × List Int => z.2) zs).2.perm.length_eq]; exact hz
    have hf : H d = none := I1.hok.fresh hd
    exact ⟨.ref d, _, I1.laid (t' := tk) (a := d) k2 hd (show ObjOk X.prog X.w _ _ _ (.lst ((sortG ltZ zs).map Prod.fst)) from ⟨hlen, out, n, rv, ho⟩), rfl, q d hf⟩
end
end G
end

section
set_option Elab.async false
set_option linter.all false
set_option maxRecDepth 100000
set_option maxHeartbeats 4000000
/-! GS5: sorted(..), list(..): the calls. By an AI agent. -/
namespace G
open PySem PySem.Spec PyProof.Rows L2 SrtO
variable [Cold]
section
variable {X : Cx} {N : Nm}
theorem keys_valsK {P : Program} {w : World} : ∀ {es : List DictEntry} {kvs : List (Key × V)} {vs : List (Key × Value)}, Pairs (mixKind P w) es vs → KV kvs vs → Vals (kvs.map fun kv => kV kv.1) (es.map (·.key))
  | [], kvs, vs, h, r => by
    cases h
    cases r
    exact .nil
  | e :: es, kvs, vs, h, r => by
    cases h with
    | cons h1 hv h2 =>
      cases r with
      | cons r1 r2 =>
        refine .cons ?_ (keys_valsK h2 r2)
        have := keyIs_rel h1
        rw [← r1.1] at this
        exact this
theorem keys_valsT {P : Program} {w : World} {H : Hp} : ∀ {es : List DictEntry} {kvs : List (List Key × V)} {xs : List (List Key × Addr × Value)}, es = xs.map (entryOfKey (tupleKind (mixKind P w))) → KT H kvs xs →
    es.map (·.key) = (xs.map fun x => x.2.1).map Value.ref := by
  intro es kvs xs h _
  rw [h, List.map_map, List.map_map]
  rfl
/-- the items of an iterable, by the model -/
theorem src_colls {pins : List (Addr × Obj)} {σ : L2.St} {H : Hp} {s : Shared} {a : Addr} {P : List V → Prop} {G : Prop} (hc : X.calm = true) (I : Inv X pins σ H s) (h : src X.K H a P)
    (k : ∀ us vs, Vals us vs → us.length ≤ sizeLine → Colls X.prog X.w X.A.handled s a vs → P us → G) : G := by
  rcases h with ⟨us, h, p⟩ | ⟨kvs, h, p⟩ | ⟨kvs, h, p⟩
  · rcases h with h | h
    · obtain ⟨its, rv, pl, hz⟩ := I.list h
      exact k us its rv hz (colls_list pl.isList (by rw [← Paired.length rv]; exact hz)) p
    · obtain ⟨its, rv, pl, hz⟩ := I.tuple h
      exact k us its rv hz (colls_tuple pl (by rw [← Paired.length rv]; exact hz)) p
  · obtain ⟨z, lo, vs, rel, o, es, ep, ho, hx, hd, hk, hp, hn⟩ := dk_rd I.hok h
    have rv := keys_valsK hp rel
    have hl : (kvs.map fun kv => kV kv.1).length ≤ sizeLine := by rw [List.length_map]; exact z
    have he : es.size ≤ sizeLine := by
      have := Paired.length rv
      simp only [List.length_map, Array.length_toList] at this hl
      omega
    exact k _ _ rv hl (colls_dict lo ho hx hd he (I.ok.hd hc)) p
  · obtain ⟨z, lo, xs, rel, o, es, ep, ho, hx, hd, he, hn⟩ := (show ObjOk X.prog X.w H s.heap a (.dT kvs) from h.ok I.hok)
    have l2 : kvs.length = xs.length := Paired.length rel
    have hes : es.size ≤ sizeLine := by
      have l1 : es.size = xs.length := size_of_entries he
      omega
    have := colls_dict (prog := X.prog) (w := X.w) (A := X.A) lo ho hx hd hes (I.ok.hd hc)
    rw [keys_valsT he rel] at this
    refine k _ _ (vals_refs _) ?_ this (p _ (isKeys_of rel))
    simp
    omega
theorem cr_sortG (hc : X.calm = true) (hu : X.A.units + 4 < cLine) : CallR X (.builtin "sorted") (rSortG X.K) := by
  intro pins s σ H xs us Q I r h
  obtain ⟨a, rfl, h⟩ := h
  rw [Vals.ref1 r]
  refine src_colls hc I h fun ws vs rv hz hcl ⟨zs, ez, vi, q⟩ => ?_
  subst ez
  exact sort_one hu I rv (by simpa using hz) hcl vi q
/-- data beside values -/
theorem RepL.zipD {K : PySem.W.Frag} {ρ : Pl} {H : Hp} : ∀ {xs : List D} {us : List V}, RepL K ρ H xs us → (xs.zip us).map Prod.fst = xs ∧ (xs.zip us).map Prod.snd = us ∧ ∀ z ∈ xs.zip us, Rep K ρ H z.1 z.2
  | [], us, h => by rw [show us = [] from h]; exact ⟨rfl, rfl, fun _ h => (nomatch h)⟩
  | x :: xs, us, h => by
    obtain ⟨v, r, rfl, h1, h2⟩ := h
    obtain ⟨a, b, c⟩ := RepL.zipD h2
    refine ⟨by simp [a], by simp [b], fun z hz => ?_⟩
    rcases List.mem_cons.mp (by simpa using hz) with q | q
    · rw [q]; exact h1
    · exact c z q
theorem RepL.ofZip {K : PySem.W.Frag} {ρ : Pl} {H : Hp} : ∀ (l : List (D × V)), (∀ z ∈ l, Rep K ρ H z.1 z.2) → RepL K ρ H (l.map Prod.fst) (l.map Prod.snd)
  | [], _ => rfl
  | z :: l, h => ⟨z.2, l.map Prod.snd, rfl, h z (List.mem_cons_self ..), RepL.ofZip l fun y hy => h y (List.mem_cons_of_mem _ hy)⟩
theorem swo_D : Swo ltD := swo_by rkD
/-- sorted data beside sorted values -/
theorem sort_rep {K : PySem.W.Frag} {ρ : Pl} {H : Hp} {xs : List D} {us : List V} (h : RepL K ρ H xs us) :
    RepL K ρ H (sortG ltD xs) ((sortG ltZ ((xs.zip us).map fun z => (z.2, rkD z.1))).map Prod.fst) := by
  obtain ⟨a, b, c⟩ := h.zipD
  have e1 := sortG_map (lt := fun x y : D × V => ltD x.1 y.1) (lt' := ltD) Prod.fst (xs.zip us) fun x _ y _ => rfl
  have e2 := sortG_map (lt := fun x y : D × V => ltD x.1 y.1) (lt' := ltZ) (fun z : D × V => (z.2, rkD z.1)) (xs.zip us) fun x _ y _ => rfl
  rw [a] at e1
  rw [← e1, ← e2, List.map_map]
  exact RepL.ofZip _ fun z hz => c z ((sortG_mem (swo_by fun z : D × V => rkD z.1)).mp hz)
theorem isI_ok {x : D} (h : isI x = true) : ∃ i, x = .int i := by
  cases x <;> first | exact ⟨_, rfl⟩ | cases h
theorem isS_ok {x : D} (h : isS x = true) : ∃ i, x = .str i := by
  cases x <;> first | exact ⟨_, rfl⟩ | cases h
theorem isTI_ok {x : D} (h : isTI x = true) : ∃ ys ns, x = .tup ys ∧ intsOf ys = some ns := by
  cases x with
  | tup ys =>
    cases e : intsOf ys with
    | none =>
      have h' : (intsOf ys).isSome = true := h
      rw [e] at h'; cases h'
    | some ns => exact ⟨ys, ns, rfl, e⟩
  | _ => cases h
theorem vitems {K : PySem.W.Frag} {ρ : Pl} {H : Hp} {xs : List D} {us : List V} (h : RepL K ρ H xs us) (hs : canSort xs = true) : VItems K H ((xs.zip us).map fun z => (z.2, rkD z.1)) := by
  obtain ⟨a, b, c⟩ := h.zipD
  have hm : ∀ z ∈ xs.zip us, z.1 ∈ xs := fun z hz => by have := List.mem_map_of_mem (f := Prod.fst) hz; rw [a] at this; exact this
  unfold canSort at hs
  rw [Bool.or_eq_true, Bool.or_eq_true, Bool.and_eq_true, Bool.or_eq_true] at hs
  have tp : ∀ z ∈ xs.zip us, isTI z.1 = true → ∃ p ns, (z.2, rkD z.1) = (V.ref p, ns) ∧ SqT K H p (ns.map V.int) ∧ (noE z.1 = true → ns ≠ []) := by
    intro z hz hh
    obtain ⟨ys, ns, e, e2⟩ := isTI_ok hh
    have := c z hz
    rw [e] at this ⊢
    obtain ⟨p, vs, ev, t, r⟩ := this
    refine ⟨p, ns, by rw [ev]; show (V.ref p, (intsOf ys).getD []) = _; rw [e2]; rfl, by rw [← ints_rep e2 r]; exact t.1, fun hn z2 => ?_⟩
    subst z2
    cases ys with
    | nil => cases hn
    | cons y ys =>
      cases y with
      | int i =>
        unfold intsOf at e2
        obtain ⟨_, _, q⟩ := Option.map_eq_some_iff.mp e2
        cases q
      | _ => cases e2
  rcases hs with hs | hs | ⟨hs, hs2 | hs2⟩
  · refine .sI fun z hz => ?_
    obtain ⟨y, hy, rfl⟩ := List.mem_map.mp hz
    obtain ⟨i, e⟩ := isI_ok (List.all_eq_true.mp hs _ (hm y hy))
    have := c y hy
    rw [e] at this ⊢
    exact ⟨i, by rw [show y.2 = V.int i from this]; rfl⟩
  · refine .sS fun z hz => ?_
    obtain ⟨y, hy, rfl⟩ := List.mem_map.mp hz
    obtain ⟨i, e⟩ := isS_ok (List.all_eq_true.mp hs _ (hm y hy))
    have := c y hy
    rw [e] at this ⊢
    exact ⟨_, by rw [show y.2 = V.str _ from this]; rfl⟩
  · refine .sT fun z hz => ?_
    obtain ⟨y, hy, rfl⟩ := List.mem_map.mp hz
    obtain ⟨p, ns, e1, e2, e3⟩ := tp y hy (List.all_eq_true.mp hs _ (hm y hy))
    exact ⟨p, ns, e1, e2, e3 (List.all_eq_true.mp hs2 _ (hm y hy))⟩
  · refine .sE (fun z hz => ?_) ?_
    · obtain ⟨y, hy, rfl⟩ := List.mem_map.mp hz
      obtain ⟨p, ns, e1, e2, e3⟩ := tp y hy (List.all_eq_true.mp hs _ (hm y hy))
      exact ⟨p, ns, e1, e2⟩
    · split at hs2
      · rename_i r
        obtain ⟨v, q, rfl, _, _⟩ := h
        exact ⟨v, _, rfl⟩
      · cases hs2
theorem cg_sorted : CallG N X (rSortG X.K) fSorted := by
  intro S ρ H xs d us Q R rl e q
  unfold fSorted at e
  obtain ⟨y, rfl, e⟩ := f1 (S := S) e
  dsimp only at e
  obtain ⟨u, rfl, rx⟩ := rep1 rl
  split at e
  · rename_i zs ez
    split at e
    · rename_i hs
      cases e
      rw [Bool.and_eq_true] at hs
      obtain ⟨a, rfl, h⟩ := src_of (P := fun us => ∃ ws, us = ws.map Prod.fst ∧ VItems X.K H ws ∧ ∀ p, H p = none → Q (.ref p) (upd H p (.lst ((sortG ltZ ws).map Prod.fst)))) R rx ez fun us hr => by
        refine ⟨(zs.zip us).map fun z => (z.2, rkD z.1), ?_, vitems hr hs.1, fun p hp => ?_⟩
        · rw [List.map_map]
          exact hr.zipD.2.1.symm
        · obtain ⟨a1, a2, a3⟩ := lst_new R (sort_rep hr) hp
          exact q _ _ _ a1 a2 a3
      exact ⟨a, rfl, h⟩
    · cases e
  · cases e
/-! ### list(..) -/
/-- list(..) of a dict of the program's top -/
theorem call_list_dKR {X : Cx} (hc : X.calm = true) : CallR X (.type "list") (fun xs H Q => ∃ p kvs, xs = [.ref p] ∧ Rd H p (.dK kvs) ∧ ∀ q, H q = none → Q (.ref q) (upd H q (.lst (kvs.map fun kv => kV kv.1)))) := by
  intro pins s σ H xs us Q I r h
  obtain ⟨p, kvs, e, hk, q⟩ := h
  subst e
  obtain ⟨u, eu, rx⟩ := vals1 r
  subst eu
  obtain rfl : u = Value.ref p := rx
  obtain ⟨z, lo, vs, rk, hd⟩ := dk_rd I.hok hk
  obtain ⟨ep, hat⟩ := hd.dictAt
  have hl : kvs.length = vs.length := Paired.length rk
  refine PySem.W.kdl_call (PySem.W.kdl_dict (knd := mixKind X.prog X.w) (kvs := vs) (ep := ep) lo) (I.ok.hd hc) hat (by rw [← hl]; exact z) fun h' tk acc' c' hkeep hS hacc => ?_
  refine ⟨.ref s.heap.objs.size, upd H s.heap.objs.size (.lst (kvs.map fun kv => kV kv.1)), I.laid hkeep (Nat.le_refl _) (show ObjOk X.prog X.w _ _ _ (.lst (kvs.map fun kv => kV kv.1)) from ⟨?_, acc'.toList, c', ?_, ?_⟩), rfl, q _ (I.hok.fresh (Nat.le_refl _))⟩
  · rw [List.length_map]; exact z
  · have el : acc'.toList.length = acc'.size := by simp
    refine vals_of_at (by rw [List.length_map, el, hacc.1, hl]) fun j x w h1 h2 => ?_
    obtain ⟨k, y, hky, hi⟩ := hacc.2 j w (by rw [← Array.getElem?_toList]; exact h2)
    have e1 : (kvs.map (·.1))[j]? = some k := by
      rw [KV.keys rk, List.getElem?_map, hky] <;> rfl
    have e2 : (kvs.map fun kv => kV kv.1)[j]? = some (kV k) := by
      have e3 : (kvs.map fun kv => kV kv.1) = (kvs.map (·.1)).map kV := by rw [List.map_map] <;> rfl
      rw [e3, List.getElem?_map, e1] <;> rfl
    rw [e2] at h1
    cases h1
    exact keyIs_rel hi
  · rw [Array.toArray_toList]; exact hS
def rListG (K : PySem.W.Frag) : List V → Hp → VK → Prop := fun xs H Q => (∃ p ys, xs = [.ref p] ∧ (SqL K H p ys ∨ SqT K H p ys) ∧ ∀ l, H l = none → Q (.ref l) (upd H l (.lst ys))) ∨
  (∃ p kvs, xs = [.ref p] ∧ Rd H p (.dK kvs) ∧ ∀ q, H q = none → Q (.ref q) (upd H q (.lst (kvs.map fun kv => kV kv.1)))) ∨
  ∃ d kvs, xs = [V.ref d] ∧ Rd H d (.dT kvs) ∧ ∀ p bs, H p = none → IsKeys H kvs bs → Q (.ref p) (upd H p (.lst (bs.map V.ref)))
theorem cr_listG (hc : X.calm = true) : CallR X (.type "list") (rListG X.K) := call_list_of.or ((call_list_dKR hc).or (call_list_dT hc))
theorem cg_list : CallG N X (rListG X.K) fList := by
  intro S ρ H xs d us Q R rl e q
  unfold fList at e
  obtain ⟨y, rfl, e⟩ := f1 (S := S) e
  dsimp only at e
  obtain ⟨u, rfl, rx⟩ := rep1 rl
  obtain ⟨zs, ez, rfl⟩ := Option.map_eq_some_iff.mp e
  obtain ⟨a, rfl, h⟩ := src_of (P := fun us => ∀ p, H p = none → Q (.ref p) (upd H p (.lst us))) R rx ez fun us hr p hp => by
    obtain ⟨a1, a2, a3⟩ := lst_new R hr hp
    exact q _ _ _ a1 a2 a3
  rcases h with ⟨us, h1, h2⟩ | ⟨kvs, h1, h2⟩ | ⟨kvs, h1, h2⟩
  · exact .inl ⟨a, us, rfl, h1, h2⟩
  · exact .inr (.inl ⟨a, kvs, rfl, h1, h2⟩)
  · exact .inr (.inr ⟨a, kvs, rfl, h1, fun p bs hp hb => h2 bs hb p hp⟩)
end
end G
end

section
set_option Elab.async false
set_option linter.all false
set_option maxRecDepth 100000
set_option maxHeartbeats 4000000
/-! G11: max, min, isinstance, slices. By an AI agent. -/
namespace G
open PySem PySem.Spec PyProof.Rows L2 PySem.W
variable [Cold]
section
variable {X : Cx} {N : Nm} {W : WX}
theorem holdAll_ints {h : Heap} : ∀ {ns : List Int} {its : List Value}, Vals (ns.map V.int) its → HoldAll h its ns
  | [], its, r => by cases r; exact ⟨_, ReadsAll.nil⟩
  | n :: ns, its, r => by
    cases r with
    | cons r1 r2 =>
      obtain ⟨as, q⟩ := holdAll_ints (h := h) r2
      obtain ⟨t, rfl⟩ := r1
      exact ⟨_, ReadsAll.cons (Reads.int n t) q⟩
theorem maxOf_ok : ∀ (xs : List Int) (x : Int), (maxOf x xs = x ∨ maxOf x xs ∈ xs) ∧ x ≤ maxOf x xs ∧ ∀ y ∈ xs, y ≤ maxOf x xs
  | [], x => ⟨.inl rfl, Int.le_refl _, fun _ h => (nomatch h)⟩
  | y :: xs, x => by
    have hl : DatumOrd.lt x y = decide (x < y) := rfl
    have e : maxOf x (y :: xs) = maxOf (if x < y then y else x) xs := by
      show xs.foldl _ (if DatumOrd.lt x y = true then y else x) = _
      rw [hl]
      simp only [decide_eq_true_eq]
      rfl
    obtain ⟨h1, h2, h3⟩ := maxOf_ok xs (if x < y then y else x)
    rw [e]
    refine ⟨?_, ?_, fun z hz => ?_⟩
    · rcases h1 with h1 | h1
      · rw [h1]; split
        · exact .inr (List.mem_cons_self ..)
        · exact .inl rfl
      · exact .inr (List.mem_cons_of_mem _ h1)
    · exact Int.le_trans (by split <;> omega) h2
    · rcases List.mem_cons.mp hz with q | q
      · subst q; exact Int.le_trans (by split <;> omega) h2
      · exact h3 z q
theorem minOf_ok : ∀ (xs : List Int) (x : Int), (minOf x xs = x ∨ minOf x xs ∈ xs) ∧ minOf x xs ≤ x ∧ ∀ y ∈ xs, minOf x xs ≤ y
  | [], x => ⟨.inl rfl, Int.le_refl _, fun _ h => (nomatch h)⟩
  | y :: xs, x => by
    have hl : DatumOrd.lt y x = decide (y < x) := rfl
    have e : minOf x (y :: xs) = minOf (if y < x then y else x) xs := by
      show xs.foldl _ (if DatumOrd.lt y x = true then y else x) = _
      rw [hl]
      simp only [decide_eq_true_eq]
      rfl
    obtain ⟨h1, h2, h3⟩ := minOf_ok xs (if y < x then y else x)
    rw [e]
    refine ⟨?_, ?_, fun z hz => ?_⟩
    · rcases h1 with h1 | h1
      · rw [h1]; split
        · exact .inr (List.mem_cons_self ..)
        · exact .inl rfl
      · exact .inr (List.mem_cons_of_mem _ h1)
    · exact Int.le_trans h2 (by split <;> omega)
    · rcases List.mem_cons.mp hz with q | q
      · subst q; exact Int.le_trans h2 (by split <;> omega)
      · exact h3 z q
def rMaxT (K : PySem.W.Frag) : List V → Hp → VK → Prop := fun vs H Q => ∃ (a : Addr) (n : Int) (ns : List Int), vs = [V.ref a] ∧ SqT K H a ((n :: ns).map V.int) ∧ Q (.int (maxOf n ns)) H
def rMinT (K : PySem.W.Frag) : List V → Hp → VK → Prop := fun vs H Q => ∃ (a : Addr) (n : Int) (ns : List Int), vs = [V.ref a] ∧ SqT K H a ((n :: ns).map V.int) ∧ Q (.int (minOf n ns)) H
theorem holds_int {h : Heap} {v : Value} {m : Int} (q : Holds h v m) : ∃ t, v = .int m t := by
  obtain ⟨as, r⟩ := q
  cases r
  exact ⟨_, rfl⟩
theorem cr_maxT (hc : X.calm = true) (hu : X.A.units + 4 < cLine) : CallR X (.builtin "max") (rMaxT X.K) := by
  intro pins s σ H vs us Q I r h
  obtain ⟨a, n, ns, rfl, hs, q⟩ := h
  obtain ⟨its, rv, tp, _⟩ := I.tuple hs
  rw [Vals.ref1 r]
  refine max_tuple_datum (α := Int) (I.ok.hd hc) tp (by simpa using holdAll_ints rv) (by show X.A.units + 1 + 0 < cLine; omega) fun i v h' tk hi hv hk => ?_
  obtain ⟨t, rfl⟩ := holds_int hv
  exact ⟨.int _, H, I.kept hk, ⟨t, rfl⟩, q⟩
theorem cr_minT (hc : X.calm = true) (hu : X.A.units + 4 < cLine) : CallR X (.builtin "min") (rMinT X.K) := by
  intro pins s σ H vs us Q I r h
  obtain ⟨a, n, ns, rfl, hs, q⟩ := h
  obtain ⟨its, rv, tp, _⟩ := I.tuple hs
  rw [Vals.ref1 r]
  refine min_tuple_datum (α := Int) (I.ok.hd hc) tp (by simpa using holdAll_ints rv) (by show X.A.units + 1 + 0 < cLine; omega) fun i v h' tk hi hv hk => ?_
  obtain ⟨t, rfl⟩ := holds_int hv
  exact ⟨.int _, H, I.kept hk, ⟨t, rfl⟩, q⟩
theorem maxI_eq : ∀ {ns : List Int} {m : Int}, maxI ns = some m → ∃ n r, ns = n :: r ∧ m = maxOf n r
  | [], m, h => by cases h
  | n :: r, m, h => by
    cases h
    refine ⟨n, r, rfl, ?_⟩
    show r.foldl (fun m y => if m < y then y else m) n = r.foldl (fun a y => if DatumOrd.lt a y = true then y else a) n
    congr 1
    funext a y
    have : DatumOrd.lt a y = decide (a < y) := rfl
    rw [this]
    simp
theorem minI_eq : ∀ {ns : List Int} {m : Int}, minI ns = some m → ∃ n r, ns = n :: r ∧ m = minOf n r
  | [], m, h => by cases h
  | n :: r, m, h => by
    cases h
    refine ⟨n, r, rfl, ?_⟩
    show r.foldl (fun m y => if y < m then y else m) n = r.foldl (fun a y => if DatumOrd.lt y a = true then y else a) n
    congr 1
    funext a y
    have : DatumOrd.lt y a = decide (y < a) := rfl
    rw [this]
    simp
def rMax2 : List V → Hp → VK → Prop := fun xs H Q => ∃ i j, xs = [.int i, .int j] ∧ Q (.int (if j > i then j else i)) H
def rMin2 : List V → Hp → VK → Prop := fun xs H Q => ∃ i j, xs = [.int i, .int j] ∧ Q (.int (if j < i then j else i)) H
abbrev rMaxG (K : PySem.W.Frag) : List V → Hp → VK → Prop := fun xs H Q => rMax2 xs H Q ∨ rMax K xs H Q ∨ rMaxT K xs H Q
abbrev rMinG (K : PySem.W.Frag) : List V → Hp → VK → Prop := fun xs H Q => rMin2 xs H Q ∨ rMin K xs H Q ∨ rMinT K xs H Q
theorem cr_maxG (hc : X.calm = true) (hu : X.A.units + 4 < cLine) : CallR X (.builtin "max") (rMaxG X.K) := (call_max2 hc).or ((cr_max hc).or (cr_maxT hc hu))
theorem cr_minG (hc : X.calm = true) (hu : X.A.units + 4 < cLine) : CallR X (.builtin "min") (rMinG X.K) := (call_min2 hc).or ((cr_min hc).or (cr_minT hc hu))
theorem cg_max : CallG N X (rMaxG X.K) fMax := by
  intro S ρ H xs d us Q R rl e q
  unfold fMax at e
  split at e
  · cases e
    obtain ⟨u, u2, rfl, rx, ry⟩ := rep2 rl
    obtain rfl : u = V.int _ := rx
    obtain rfl : u2 = V.int _ := ry
    exact .inl ⟨_, _, rfl, q ρ _ H (Step.refl _ _) R rfl⟩
  · obtain ⟨u, rfl, rx⟩ := rep1 rl
    split at e
    · rename_i zs ez
      obtain ⟨ns, e1, e2⟩ := Option.bind_eq_some_iff.mp e
      obtain ⟨m, e3, rfl⟩ := Option.map_eq_some_iff.mp e2
      obtain ⟨n, r, rfl, rfl⟩ := maxI_eq e3
      have hq := q ρ (.int (maxOf n r)) H (Step.refl _ _) R rfl
      unfold seqOf at ez
      split at ez
      · rename_i ws ew
        cases ez
        obtain ⟨a, vs, rfl, h1, h2⟩ := rd_lst R rx ew
        refine .inr (.inl ⟨a, n :: r, rfl, by rw [← ints_rep e1 h2]; exact SqL.of h1, by simp, fun m hm hy => ?_⟩)
        obtain ⟨k1, k2, k3⟩ := maxOf_ok r n
        have e4 : m = maxOf n r := by
          have a1 : m ≤ maxOf n r := by
            rcases List.mem_cons.mp hm with z | z
            · rw [z]; exact k2
            · exact k3 m z
          have a2 : maxOf n r ≤ m := by
            rcases k1 with z | z
            · rw [z]; exact hy n (List.mem_cons_self ..)
            · exact hy _ (List.mem_cons_of_mem _ z)
          omega
        rw [e4]
        exact hq
      · rename_i ws ew
        cases ez
        rw [rd_tup ew] at rx
        obtain ⟨a, vs, rfl, h1, h2⟩ := rx
        exact .inr (.inr ⟨a, n, r, rfl, by rw [← ints_rep e1 h2]; exact h1.1, hq⟩)
      · cases ez
    · cases e
  · cases e
theorem cg_min : CallG N X (rMinG X.K) fMin := by
  intro S ρ H xs d us Q R rl e q
  unfold fMin at e
  split at e
  · cases e
    obtain ⟨u, u2, rfl, rx, ry⟩ := rep2 rl
    obtain rfl : u = V.int _ := rx
    obtain rfl : u2 = V.int _ := ry
    exact .inl ⟨_, _, rfl, q ρ _ H (Step.refl _ _) R rfl⟩
  · obtain ⟨u, rfl, rx⟩ := rep1 rl
    split at e
    · rename_i zs ez
      obtain ⟨ns, e1, e2⟩ := Option.bind_eq_some_iff.mp e
      obtain ⟨m, e3, rfl⟩ := Option.map_eq_some_iff.mp e2
      obtain ⟨n, r, rfl, rfl⟩ := minI_eq e3
      have hq := q ρ (.int (minOf n r)) H (Step.refl _ _) R rfl
      unfold seqOf at ez
      split at ez
      · rename_i ws ew
        cases ez
        obtain ⟨a, vs, rfl, h1, h2⟩ := rd_lst R rx ew
        refine .inr (.inl ⟨a, n :: r, rfl, by rw [← ints_rep e1 h2]; exact SqL.of h1, by simp, fun m hm hy => ?_⟩)
        obtain ⟨k1, k2, k3⟩ := minOf_ok r n
        have e4 : m = minOf n r := by
          have a1 : minOf n r ≤ m := by
            rcases List.mem_cons.mp hm with z | z
            · rw [z]; exact k2
            · exact k3 m z
          have a2 : m ≤ minOf n r := by
            rcases k1 with z | z
            · rw [z]; exact hy n (List.mem_cons_self ..)
            · exact hy _ (List.mem_cons_of_mem _ z)
          omega
        rw [e4]
        exact hq
      · rename_i ws ew
        cases ez
        rw [rd_tup ew] at rx
        obtain ⟨a, vs, rfl, h1, h2⟩ := rx
        exact .inr (.inr ⟨a, n, r, rfl, by rw [← ints_rep e1 h2]; exact h1.1, hq⟩)
      · cases ez
    · cases e
  · cases e
/-! ### isinstance -/
def Ty.nm : Ty → String
  | .int => "int"
  | .bool => "bool"
  | .str => "str"
  | .tuple => "tuple"
  | .list => "list"
/-- what the program's part says of types -/
def tyNames : List String := ["NoneType", "bool", "int", "str", "list", "tuple"]
def tyAns : String → Ty → Bool
  | "bool", .int => true
  | "int", .int => true
  | "bool", .bool => true
  | "str", .str => true
  | "tuple", .tuple => true
  | "list", .list => true
  | _, _ => false
def KitTy (K : PySem.W.Frag) : Prop := ∀ n ∈ tyNames, ∀ t : Ty, PySem.W.kitOne K (.type n) (.type t.nm) = some (tyAns n t)
theorem kitTy (K : PySem.W.Frag) : KitTy K := by
  intro n hn t
  simp only [tyNames, List.mem_cons, List.not_mem_nil, or_false] at hn
  rcases hn with rfl | rfl | rfl | rfl | rfl | rfl <;> cases t <;> first | rfl | decide +kernel
theorem tup_ty {K : PySem.W.Frag} {H : Hp} {p : Addr} {vs : List V} (h : SqT K H p vs) : TyX K H (.ref p) (.type "tuple") := by
  rcases h with (h | ⟨o, h⟩) | ⟨o, its, n, h, hc, _⟩
  · exact .base (.tup h)
  · exact .fTuple h
  · exact .kTuple h hc
theorem isTy_ok {K : PySem.W.Frag} {ρ : Pl} {S : Store} {H : Hp} {d : D} {u : V} {t : Ty} {b : Bool} (R : Rel K N ρ S H) (rx : Rep K ρ H d u) (e : isTy S t d = some b) : ∃ n, n ∈ tyNames ∧ TyX K H u (.type n) ∧ tyAns n t = b := by
  unfold isTy at e
  cases hr : rd S d with
  | ref n => rw [hr] at e; cases t <;> cases e
  | scr n => rw [hr] at e; cases t <;> cases e
  | dct n m => rw [hr] at e; cases t <;> cases e
  | err => rw [hr] at e; cases t <;> cases e
  | non =>
    rw [hr] at e
    rw [rd_non hr] at rx
    rw [show u = .non from rx]
    refine ⟨"NoneType", by decide, .base .non, ?_⟩
    cases t <;> (cases e; rfl)
  | bl k =>
    rw [hr] at e
    rw [rd_bl hr] at rx
    rw [show u = .bl k from rx]
    refine ⟨"bool", by decide, .base (.bl k), ?_⟩
    cases t <;> (cases e; rfl)
  | int k =>
    rw [hr] at e
    rw [rd_int hr] at rx
    rw [show u = .int k from rx]
    refine ⟨"int", by decide, .base (.int k), ?_⟩
    cases t <;> (cases e; rfl)
  | str k =>
    rw [hr] at e
    rw [rd_str hr] at rx
    rw [show u = .str _ from rx]
    refine ⟨"str", by decide, .base (.str _), ?_⟩
    cases t <;> (cases e; rfl)
  | tup k =>
    rw [hr] at e
    rw [rd_tup hr] at rx
    obtain ⟨p, vs, rfl, h1, h2⟩ := rx
    refine ⟨"tuple", by decide, tup_ty h1.1, ?_⟩
    cases t <;> (cases e; rfl)
  | lst k =>
    rw [hr] at e
    obtain ⟨p, vs, rfl, h1, h2⟩ := rd_lst R rx hr
    refine ⟨"list", by decide, .base (.lst h1), ?_⟩
    cases t <;> (cases e; rfl)
variable {x : Str} {a b : Expr} {ma : EM} {p pos : Pos}
theorem g_isi (t : Ty) (ha : GE N X W a ma) (hT : PE X b (tC (.ty t.nm))) (hg : Gl X x) (hm : X.mg x = none) (hv : bootBuiltins x = some (.builtin "isinstance")) (hn : x ≠ "__name__" := by decide) (hdb : (x == ("__debug__" : Str)) = false := by decide)
    (h1 : starEach [a, b] X.env = (false, eval a X.env) :: starEach [b] X.env := by rfl) (h2 : starEach [b] X.env = (false, eval b X.env) :: starEach [] X.env := by rfl)
    (hpl : (backTo pos (starEach [b] X.env)).any (·.1) = false := by rfl) : GE N X W (.Call (.Name x p) [a, b] [] pos) (eUn (uIs t) ma) :=
  PE.imp (pe_callB call_isi hg hm hv (pa_cons ha (pa_cons hT pa_nil h2) h1) hn hdb h1 hpl) fun σ H Q ⟨env, S, ρ, fr, h⟩ => ⟨env, S, ρ, fr, h.bE fun x S1 ρ1 u H1 st1 r1 p1 h1 => by
    obtain ⟨d, e, h3⟩ := h1.ofO
    unfold uIs toB at e
    obtain ⟨b, e1, rfl⟩ := Option.map_eq_some_iff.mp e
    obtain ⟨n, hn, ty, ea⟩ := isTy_ok r1 p1 e1
    exact (⟨u, .ty t.nm, .type n, .type t.nm, b, rfl, .ty _, ty, by rw [kitTy X.K n hn t, ea], PostE.ok h3 r1 rfl⟩ : rIsi X.K [u, .ty t.nm] H1 Q)⟩
/-! ### slices -/
theorem sIx_eq (n d : Nat) (v : Option Int) : sIx n d v = HT.sIx n d v := by
  cases v with
  | none => rfl
  | some i =>
    show (if 0 ≤ i then min i.toNat n else (i + n).toNat) = if i < 0 then (i + (n : Int)).toNat else min i.toNat n
    by_cases h : 0 ≤ i
    · rw [if_pos h, if_neg (by omega)]
    · rw [if_neg h, if_pos (by omega)]
theorem RepL.drop {K : PySem.W.Frag} {ρ : Pl} {H : Hp} : ∀ (n : Nat) {xs : List D} {us : List V}, RepL K ρ H xs us → RepL K ρ H (xs.drop n) (us.drop n)
  | 0, xs, us, h => h
  | n + 1, [], us, h => by rw [show us = [] from h]; exact rfl
  | n + 1, x :: xs, us, h => by
    obtain ⟨v, r, rfl, h1, h2⟩ := h
    exact RepL.drop n h2
theorem RepL.take {K : PySem.W.Frag} {ρ : Pl} {H : Hp} : ∀ (n : Nat) {xs : List D} {us : List V}, RepL K ρ H xs us → RepL K ρ H (xs.take n) (us.take n)
  | 0, xs, us, h => by simp [RepL]
  | n + 1, [], us, h => by rw [show us = [] from h]; exact rfl
  | n + 1, x :: xs, us, h => by
    obtain ⟨v, r, rfl, h1, h2⟩ := h
    exact ⟨v, _, rfl, h1, RepL.take n h2⟩
theorem RepL.cut {K : PySem.W.Frag} {ρ : Pl} {H : Hp} {xs : List D} {us : List V} (h : RepL K ρ H xs us) (lo hi : Option Int) : RepL K ρ H (G.cut xs lo hi) (cutV us lo hi) := by
  unfold G.cut cutV
  rw [sIx_eq, sIx_eq, RepL.length h]
  exact RepL.take _ (RepL.drop _ h)
def PostP (K : PySem.W.Frag) (N : Nm) (W : WX) (ρ : Pl) (σ : L2.St) (H : Hp) (r : R (Option Int)) (Q : Option Int → Hp → Prop) : Prop := match r with
  | .ok o S' => ∀ (ρ' : Pl) (H' : Hp), Step ρ H ρ' H' → Rel K N ρ' S' H' → Q o H'
  | .exc c as S' => ∀ (ρ' : Pl) (oe : Option Addr) (H' : Hp), Step ρ H ρ' H' → Rel K N ρ' S' H' → XRep K N ρ' H' c as oe → W (.ref (N.xad c)) oe σ H'
  | .stuck => False
def tO_ (K : PySem.W.Frag) (N : Nm) (W : WX) (m : OM) : TO := fun σ H Q => ∃ env S ρ, Fr K N env S ρ σ H ∧ PostP K N W ρ σ H (m env S) Q
def GO (N : Nm) (X : Cx) (W : WX) (e : Option Expr) (m : OM) : Prop := PO X e (tO_ X.K N W m)
theorem PO.imp {e : Option Expr} {t t' : TO} (h : PO X e t) (i : ∀ σ H Q, t' σ H Q → t σ H Q) : PO X e t' := ⟨fun pins s σ H Q I q => h.run pins s σ H Q I (i _ _ _ q)⟩
theorem go_no : GO N X W none oNo := PO.imp po_none fun σ H Q ⟨env, S, ρ, fr, h⟩ => h ρ H (Step.refl _ _) fr.rel
theorem PostP.bE {K : PySem.W.Frag} {ρ : Pl} {H : Hp} {σ : L2.St} {r : R D} {k : D → Store → R (Option Int)} {Q : Option Int → Hp → Prop} {Q' : VK} (h : PostP K N W ρ σ H (r.bnd k) Q)
    (c : ∀ d S1 ρ1 v H1, Step ρ H ρ1 H1 → Rel K N ρ1 S1 H1 → Rep K ρ1 H1 d v → PostP K N W ρ1 σ H1 (k d S1) Q → Q' v H1) : PostE K N W ρ σ H r Q' := by
  cases r with
  | ok d S1 =>
    refine fun ρ1 v H1 st r1 rp => c d S1 ρ1 v H1 st r1 rp ?_
    have h' : PostP K N W ρ σ H (k d S1) Q := h
    cases e : k d S1 with
    | ok o S2 => rw [e] at h'; exact fun ρ2 H2 s2 => h' ρ2 H2 (st.trans s2)
    | exc c as S2 => rw [e] at h'; exact fun ρ2 oe H2 s2 => h' ρ2 oe H2 (st.trans s2)
    | stuck => rw [e] at h'; exact h'
  | exc c as S1 => exact h
  | stuck => exact h
theorem PostE.bP {K : PySem.W.Frag} {ρ : Pl} {H : Hp} {σ : L2.St} {r : R (Option Int)} {k : Option Int → Store → R D} {Q : VK} {Q' : Option Int → Hp → Prop} (h : PostE K N W ρ σ H (r.bnd k) Q)
    (c : ∀ d S1 ρ1 H1, Step ρ H ρ1 H1 → Rel K N ρ1 S1 H1 → PostE K N W ρ1 σ H1 (k d S1) Q → Q' d H1) : PostP K N W ρ σ H r Q' := by
  cases r with
  | ok d S1 => exact fun ρ1 H1 st r1 => c d S1 ρ1 H1 st r1 (PostE.step st h)
  | exc c as S1 => exact h
  | stuck => exact h
theorem go_so (h : GE N X W a ma) : GO N X W (some a) (oSo ma) := PO.imp (po_some h) fun σ H Q ⟨env, S, ρ, fr, h⟩ => ⟨env, S, ρ, fr, h.bE fun x S1 ρ1 u H1 st1 r1 p1 h1 => by
  cases x with
  | int i => exact ⟨i, p1, h1 ρ1 H1 (Step.refl _ _) r1⟩
  | _ => exact h1.elim⟩
theorem ints_repL {K : PySem.W.Frag} {ρ : Pl} {H : Hp} : ∀ (xs : List Int), RepL K ρ H (xs.map D.int) (xs.map V.int)
  | [] => rfl
  | x :: xs => ⟨_, _, rfl, rfl, ints_repL xs⟩
theorem cut_map (xs : List Int) (lo hi : Option Int) : cutV (xs.map V.int) lo hi = (G.cut xs lo hi).map V.int := by
  unfold cutV G.cut
  rw [sIx_eq, sIx_eq, List.length_map, List.map_take, List.map_drop]
theorem sl_G {S : Store} {ρ : Pl} {H : Hp} {x d : D} {u : V} {lo hi : Option Int} {Q : VK} (R : Rel X.K N ρ S H) (rx : Rep X.K ρ H x u) (e : slD S x lo hi = some d)
    (q : ∀ (ρ' : Pl) (z : V) (H' : Hp), Step ρ H ρ' H' → Rel X.K N ρ' S H' → Rep X.K ρ' H' d z → Q z H') : rSlL X.K u lo hi H Q ∨ rSlA X.K u lo hi H Q := by
  unfold slD at e
  split at e
  · rename_i xs ex
    cases e
    obtain ⟨a, vs, rfl, h1, h2⟩ := rd_lst R rx ex
    refine .inl ⟨a, vs, rfl, SqL.of h1, fun p hp => ?_⟩
    obtain ⟨a1, a2, a3⟩ := lst_new R (h2.cut lo hi) hp
    exact q _ _ _ a1 a2 a3
  · rename_i xs ex
    cases e
    rw [rd_tup ex] at rx
    obtain ⟨a, vs, rfl, h1, h2⟩ := rx
    refine .inr ⟨a, vs, rfl, h1.1, fun z => ?_, fun z p hp => ?_⟩
    · have e : G.cut xs lo hi = xs := by
        unfold G.cut
        rw [RepL.length h2, ← sIx_eq, ← sIx_eq] at z
        rw [z.1, z.2]
        simp
      rw [e] at q
      exact q ρ _ H (Step.refl _ _) R ⟨a, vs, rfl, h1, h2⟩
    · obtain ⟨a1, a2, a3⟩ := tup_new R (h2.cut lo hi) hp
      exact q _ _ _ a1 a2 a3
  · rename_i xs ex
    cases e
    rw [rd_scr ex] at rx
    obtain ⟨a, rfl, h1⟩ := rx
    refine .inl ⟨a, _, rfl, h1.sql, fun p hp => ?_⟩
    rw [cut_map]
    obtain ⟨a1, a2, a3⟩ := lst_new R (ints_repL (G.cut xs lo hi)) hp
    exact q _ _ _ a1 a2 a3
  · cases e
theorem g_slice {lo hi : Option Expr} {ml mh : OM} {p2 : Pos} (ha : GE N X W a ma) (hl : GO N X W lo ml) (hh : GO N X W hi mh) : GE N X W (.Subscript a (.Slice lo hi none p2) pos) (eSl ma ml mh) :=
  PE.imp (pe_slice (sl_list.or sl_tupA) ha hl hh) fun σ H Q ⟨env, S, ρ, fr, h⟩ => ⟨env, S, ρ, fr, h.bE fun x S1 ρ1 u H1 st1 r1 p1 h1 =>
    ⟨env, S1, ρ1, fr.step st1 r1, h1.bP fun lo S2 ρ2 H2 st2 r2 h2 => ⟨env, S2, ρ2, (fr.step st1 r1).step st2 r2, h2.bP fun hi S3 ρ3 H3 st3 r3 h3 => by
      obtain ⟨d, e, h4⟩ := h3.ofO
      exact sl_G r3 (Rep.keep r2 st3 _ _ (Rep.keep r1 st2 _ _ p1)) e fun ρ' z H' st r p => h4 ρ' z H' st r p⟩⟩⟩
end
end G
end

section
set_option Elab.async false
set_option linter.all false
set_option maxRecDepth 100000
set_option maxHeartbeats 4000000
/-! G12: objects of the store: written lists, dicts, fields. By an AI agent. -/
namespace G
open PySem PySem.Spec PyProof.Rows L2
variable [Cold]
section
variable {K : PySem.W.Frag} {N : Nm} {ρ : Pl} {S : Store} {H : Hp}
theorem RepL.set {d : D} {v : V} (hd : Rep K ρ H d v) : ∀ (j : Nat) {xs : List D} {us : List V}, RepL K ρ H xs us → RepL K ρ H (xs.set j d) (us.set j v)
  | _, [], us, h => by rw [show us = [] from h]; exact rfl
  | 0, x :: xs, us, h => by
    obtain ⟨w, r, rfl, h1, h2⟩ := h
    exact ⟨v, r, rfl, hd, h2⟩
  | j + 1, x :: xs, us, h => by
    obtain ⟨w, r, rfl, h1, h2⟩ := h
    exact ⟨w, _, rfl, h1, RepL.set hd j h2⟩
theorem RepK.anyK {κ : Type} [DecidableEq κ] {kf : D → Option κ} (inj : KeyInj kf) {x : D} {k : κ} (hk : kf x = some k) : ∀ {kvs : List (D × D)} {q : List (κ × V)}, RepK K kf ρ H kvs q → (kvs.any fun kv => kv.1.eqv x) = q.any fun kv => decide (kv.1 = k)
  | [], q, h => by rw [show q = [] from h]; rfl
  | (y, d) :: r, q, h => by
    obtain ⟨j, v, q', rfl, hj, hv, hr⟩ := h
    rw [List.any_cons, List.any_cons, RepK.anyK inj hk hr]
    congr 1
    rw [Bool.eq_iff_iff, decide_eq_true_iff]
    exact inj y x j k hj hk
theorem RepK.mapK {κ : Type} [DecidableEq κ] {kf : D → Option κ} (inj : KeyInj kf) {x d : D} {v : V} {k : κ} (hk : kf x = some k) (hd : Rep K ρ H d v) : ∀ {kvs : List (D × D)} {q : List (κ × V)}, RepK K kf ρ H kvs q →
    RepK K kf ρ H (kvs.map fun kv => if kv.1.eqv x then (kv.1, d) else kv) (q.map fun kv => if kv.1 = k then (kv.1, v) else kv)
  | [], q, h => by rw [show q = [] from h]; exact rfl
  | (y, e) :: r, q, h => by
    obtain ⟨j, w, q', rfl, hj, hv, hr⟩ := h
    have ih := RepK.mapK inj hk hd hr
    have hij := inj y x j k hj hk
    rw [List.map_cons, List.map_cons]
    by_cases z : j = k
    · rw [if_pos (show (j, w).1 = k from z), if_pos (show (y, e).1.eqv x = true from hij.mpr z)]
      exact ⟨j, v, _, rfl, hj, hd, ih⟩
    · rw [if_neg (show ¬ (j, w).1 = k from z), if_neg (show ¬ (y, e).1.eqv x = true from fun h => z (hij.mp h))]
      exact ⟨j, w, _, rfl, hj, hv, ih⟩
theorem RepK.snoc {κ : Type} {kf : D → Option κ} {x d : D} {v : V} {k : κ} (hk : kf x = some k) (hd : Rep K ρ H d v) : ∀ {kvs : List (D × D)} {q : List (κ × V)}, RepK K kf ρ H kvs q → RepK K kf ρ H (kvs ++ [(x, d)]) (q ++ [(k, v)])
  | [], q, h => by rw [show q = [] from h]; exact ⟨k, v, [], rfl, hk, hd, rfl⟩
  | (y, e) :: r, q, h => by
    obtain ⟨j, w, q', rfl, hj, hv, hr⟩ := h
    exact ⟨j, w, _, rfl, hj, hv, RepK.snoc hk hd hr⟩
theorem RepK.put {κ : Type} [DecidableEq κ] {kf : D → Option κ} (inj : KeyInj kf) {x d : D} {v : V} {k : κ} (hk : kf x = some k) (hd : Rep K ρ H d v) {kvs : List (D × D)} {q : List (κ × V)} (h : RepK K kf ρ H kvs q) :
    RepK K kf ρ H (dput x d kvs) (putK q k v) := by
  unfold dput putK
  rw [RepK.anyK inj hk h]
  split
  · exact RepK.mapK inj hk hd h
  · exact RepK.snoc hk hd h
theorem lt_line {n : Nat} (h : Nat.blt n 10000000 = true) : n < sizeLine := Nat.lt_of_lt_of_le (by simpa [Nat.blt_eq] using h) (by decide)
/-- o[i] = v, a list or a dict -/
def rSetG (K : PySem.W.Frag) : TSet := fun o i v H Q => rSetL o i v H Q ∨ rSetD o i v H Q
theorem set_G {X : Cx} (hu : X.A.units + 1 < cLine) : PSet X (rSetG X.K) := by
  intro pins s σ H o i v ov iv u Q I ro ri rv h
  rcases h with h | h
  · exact set_list pins s σ H o i v ov iv u Q I ro ri rv h
  · exact set_dict hu pins s σ H o i v ov iv u Q I ro ri rv h
theorem setAt_ok {S' : Store} {o i d : D} {x y v : V} {Q : Hp → Prop} (R : Rel K N ρ S H) (ro : Rep K ρ H o x) (ri : Rep K ρ H i y) (rd : Rep K ρ H d v) (e : setAt S o i d = some S') (q : ∀ H', Step ρ H ρ H' → Rel K N ρ S' H' → Q H') : rSetG K x y v H Q := by
  cases o with
  | ref n =>
    obtain ⟨a, rfl, ea⟩ := ro
    have ha : a ∈ ρ.v := List.mem_of_getElem? ea
    unfold setAt at e
    dsimp only at e
    cases hn : S[n]? with
    | none => rw [hn] at e; cases e
    | some so =>
      rw [hn] at e
      obtain ⟨a', h1, h2⟩ := R.at_ n _ hn
      rw [ea] at h1; cases h1
      cases so with
      | lst xs =>
        obtain ⟨vs, hv, hr⟩ := h2
        dsimp only at e
        cases i with
        | int k =>
          obtain ⟨j, hj, rfl⟩ := Option.map_eq_some_iff.mp e
          refine .inl ⟨a, vs, k, j, rfl, ri, hv, by rw [RepL.length hr]; exact hj, ?_⟩
          have st : Step ρ H ρ (upd H a (.lst (vs.set j v))) := Step.write ha
          refine q _ st (R.write ea (fun _ _ z => by rw [hv] at z; cases z) ?_)
          exact ⟨_, upd_same, RepL.keep R st _ _ (RepL.set rd j hr)⟩
        | _ => cases e
      | dicK kvs =>
        obtain ⟨qq, hq, hr⟩ := h2
        dsimp only at e
        split at e
        · rename_i hk
          cases e
          rw [Bool.and_eq_true] at hk
          obtain ⟨k, ek, rfl⟩ := key_K hk.1 ri
          refine .inr ⟨a, _, rfl, .inl ⟨qq, k, hq, rfl, by rw [RepK.length hr]; exact lt_line hk.2, rfl⟩, ?_⟩
          have st : Step ρ H ρ (upd H a (.dK (putK qq k v))) := Step.write ha
          refine q _ st (R.write ea (fun _ _ z => by rw [hq] at z; cases z) ?_)
          exact ⟨_, upd_same, RepK.keep R st _ _ (RepK.put kD_inj ek rd hr)⟩
        · cases e
      | dicT kvs =>
        obtain ⟨qq, hq, hr⟩ := h2
        dsimp only at e
        split at e
        · rename_i hk
          cases e
          rw [Bool.and_eq_true, Bool.and_eq_true] at hk
          obtain ⟨k, b, ek, rfl, _, hb⟩ := key_T hk.1.1 ri
          refine .inr ⟨a, _, rfl, .inr ⟨qq, k, b, hq, rfl, hb hk.1.2, by rw [RepK.length hr]; exact lt_line hk.2, rfl⟩, ?_⟩
          have st : Step ρ H ρ (upd H a (.dT (putK qq k v))) := Step.write ha
          refine q _ st (R.write ea (fun _ _ z => by rw [hq] at z; cases z) ?_)
          exact ⟨_, upd_same, RepK.keep R st _ _ (RepK.put kT_inj ek rd hr)⟩
        · cases e
      | _ => cases e
  | _ => cases e
/-! ### fields -/
theorem RepF.get {k : Nat} {d : D} (inj : ∀ j, N.fnm j = N.fnm k → j = k) : ∀ {fs : List (Nat × D)} {q : List (Str × V)}, RepF K N ρ H fs q → fget k fs = some d → ∃ v, q.lookup (N.fnm k) = some v ∧ Rep K ρ H d v
  | [], q, h, e => by cases e
  | (j, x) :: r, q, h, e => by
    obtain ⟨v, q', rfl, h1, h2⟩ := h
    unfold fget at e
    by_cases z : Nat.beq j k = true
    · rw [if_pos z] at e
      cases e
      have z2 : j = k := Nat.eq_of_beq_eq_true z
      refine ⟨v, ?_, h1⟩
      rw [z2, List.lookup_cons]
      simp
    · rw [if_neg z] at e
      obtain ⟨w, e1, e2⟩ := RepF.get inj h2 e
      refine ⟨w, ?_, e2⟩
      have ne : (N.fnm k == N.fnm j) = false := by
        rw [beq_eq_false_iff_ne]
        intro y
        have := inj j y.symm
        exact z (by rw [this]; exact Nat.beq_refl k)
      rw [List.lookup_cons, ne]
      exact e1
theorem RepF.put {k : Nat} {d : D} {v : V} (inj : ∀ j, N.fnm j = N.fnm k → j = k) (hd : Rep K ρ H d v) : ∀ {fs : List (Nat × D)} {q : List (Str × V)}, RepF K N ρ H fs q → RepF K N ρ H (fput k d fs) (putF (N.fnm k) v q)
  | [], q, h => by
    rw [show q = [] from h]
    exact ⟨v, [], rfl, hd, rfl⟩
  | (j, x) :: r, q, h => by
    obtain ⟨w, q', rfl, h1, h2⟩ := h
    unfold fput putF
    by_cases z : Nat.beq j k = true
    · have z2 : j = k := Nat.eq_of_beq_eq_true z
      subst z2
      rw [if_pos z, if_pos rfl]
      exact ⟨v, q', rfl, hd, h2⟩
    · rw [if_neg z]
      have ne : ¬ N.fnm j = N.fnm k := by
        intro y
        have := inj j y
        exact z (by rw [this]; exact Nat.beq_refl k)
      rw [if_neg ne]
      exact ⟨w, _, rfl, h1, RepF.put inj hd h2⟩
end
/-! ### targets: names, x[y], x.f, tuples of these -/
inductive Tg where
  | nm (i : Nat) | sub (o i : EM) | fld (o : EM) (c k : Nat) | tp (ts : List Tg)
mutual
def setT : Tg → D → Env → Store → Option (Env × Store)
  | .nm i, d, env, S => some (env.set i (some d), S)
  | .sub o i, d, env, S => match o env S with
    | .ok x S1 => match i env S1 with
      | .ok k S2 => match setAt S2 x k d with
        | some S3 => some (env, S3)
        | none => none
      | _ => none
    | _ => none
  | .fld o c k, d, env, S => match o env S with
    | .ok (.ref n) S1 => match S1[n]? with
      | some (.ins c' fs) => if Nat.beq c' c && Nat.blt fs.length 900 then some (env, S1.set n (.ins c' (fput k d fs))) else none
      | _ => none
    | _ => none
  | .tp ts, d, env, S => match d with
    | .tup ds => setTs ts ds env S
    | _ => none
def setTs : List Tg → List D → Env → Store → Option (Env × Store)
  | [], [], env, S => some (env, S)
  | t :: ts, d :: ds, env, S => match setT t d env S with
    | some (e, S1) => setTs ts ds e S1
    | none => none
  | _, _, _, _ => none
end
def PostT (K : PySem.W.Frag) (N : Nm) (ρ : Pl) (H : Hp) (o : Option (Env × Store)) (Q : L2.St → Hp → Prop) : Prop := match o with
  | some (e, S') => ∀ (ρ' : Pl) (σ' : L2.St) (H' : Hp), Step ρ H ρ' H' → Fr K N e S' ρ' σ' H' → Q σ' H'
  | none => False
def tG_ (K : PySem.W.Frag) (N : Nm) (t : Tg) : TG := fun v σ H Q => ∃ d env S ρ, Fr K N env S ρ σ H ∧ Rep K ρ H d v ∧ PostT K N ρ H (setT t d env S) Q
def tGs_ (K : PySem.W.Frag) (N : Nm) (ts : List Tg) : TGs := fun vs σ H Q => ∃ ds env S ρ, Fr K N env S ρ σ H ∧ RepL K ρ H ds vs ∧ PostT K N ρ H (setTs ts ds env S) Q
def GTg (N : Nm) (X : Cx) (e : Expr) (t : Tg) : Prop := PG X e (tG_ X.K N t)
def GTgs (N : Nm) (X : Cx) (es : List Expr) (ts : List Tg) : Prop := PGs X es (tGs_ X.K N ts)
theorem PostT.step {K : PySem.W.Frag} {N : Nm} {ρ ρ' : Pl} {H H' : Hp} {o : Option (Env × Store)} {Q : L2.St → Hp → Prop} (st : Step ρ H ρ' H') (h : PostT K N ρ H o Q) : PostT K N ρ' H' o Q := by
  cases o with
  | none => exact h
  | some p => exact fun ρ2 σ2 H2 s2 => h ρ2 σ2 H2 (st.trans s2)
section
variable {N : Nm} {X : Cx} {pos : Pos} {W : WX}
theorem gt_name {i : Nat} {x : Str} (hN : X.N.Nodup) (hi : X.N[i]? = some x := by rfl) (hx : Loc X.env.scope x := by first | exact .inl rfl | exact .inr rfl) (hf : X.fn x = true ∨ X.env.scope.names.lookup x = some .local := by first | exact .inl rfl | exact .inr rfl) : GTg N X (.Name x pos) (.nm i) :=
  PG.imp (pg_name hN hi hx hf) fun v σ H Q ⟨d, env, S, ρ, fr, rp, hq⟩ => hq ρ _ H (Step.refl _ _) (fr.set rp)
theorem gt_sub {o i : Expr} {mo mi : EM} (hu : X.A.units + 1 < cLine) (ho : GE N X WF o mo) (hi : GE N X WF i mi)
    (ha : ∀ v, assign (.Subscript o i pos) X.env v = (do
      let ov ← holding [v] (eval o X.env)
      let iv ← holding [v, ov] (eval i X.env)
      standAt pos
      holding [v, ov, iv] (setItem ov iv v)
      release [v, ov, iv] []) := by intro _; rfl) : GTg N X (.Subscript o i pos) (.sub mo mi) :=
  PG.imp (pg_sub ho hi (set_G hu) ha) fun v σ H Q ⟨d, env, S, ρ, fr, rp, hq⟩ => by
    unfold setT at hq
    refine ⟨env, S, ρ, fr, ?_⟩
    cases e1 : mo env S with
    | stuck => rw [e1] at hq; exact hq.elim
    | exc c as S1 => rw [e1] at hq; exact hq.elim
    | ok x S1 =>
      rw [e1] at hq
      dsimp only at hq
      intro ρ1 xv H1 st1 r1 p1
      refine ⟨env, S1, ρ1, fr.step st1 r1, ?_⟩
      cases e2 : mi env S1 with
      | stuck => rw [e2] at hq; exact hq.elim
      | exc c as S2 => rw [e2] at hq; exact hq.elim
      | ok k S2 =>
        rw [e2] at hq
        dsimp only at hq
        intro ρ2 kv H2 st2 r2 p2
        cases e3 : setAt S2 x k d with
        | none => rw [e3] at hq; exact hq.elim
        | some S3 =>
          rw [e3] at hq
          have st12 := st1.trans st2
          refine setAt_ok r2 (Rep.keep r1 st2 _ _ p1) p2 (Rep.keep fr.rel st12 _ _ rp) e3 fun H3 st3 r3 => ?_
          exact hq ρ2 σ H3 (st12.trans st3) (((fr.step st1 r1).step st2 r2).step st3 r3)
theorem gts_nil : GTgs N X [] [] := PGs.imp pgs_nil fun vs σ H Q ⟨ds, env, S, ρ, fr, rp, hq⟩ => by
  cases ds with
  | nil => exact ⟨rp, hq ρ σ H (Step.refl _ _) fr⟩
  | cons d r => exact hq.elim
theorem gts_cons {e : Expr} {es : List Expr} {t : Tg} {ts : List Tg} (h1 : GTg N X e t) (h2 : GTgs N X es ts) (hs : (assignEach (e :: es) X.env).map (·.2) = assign e X.env :: (assignEach es X.env).map (·.2) := by rfl) : GTgs N X (e :: es) (t :: ts) :=
  PGs.imp (pgs_cons h1 h2 hs) fun vs σ H Q ⟨ds, env, S, ρ, fr, rp, hq⟩ => by
    cases ds with
    | nil => exact hq.elim
    | cons d r =>
      obtain ⟨v, q, rfl, p1, p2⟩ := rp
      unfold setTs at hq
      refine ⟨v, q, rfl, d, env, S, ρ, fr, p1, ?_⟩
      cases e1 : setT t d env S with
      | none => rw [e1] at hq; exact hq.elim
      | some p =>
        obtain ⟨e', S1⟩ := p
        rw [e1] at hq
        dsimp only at hq
        exact fun ρ1 σ1 H1 st1 f1 => ⟨r, e', S1, ρ1, f1, RepL.keep fr.rel st1 _ _ p2, hq.step st1⟩
theorem setTs_len : ∀ {ts : List Tg} {ds : List D} {env : Env} {S : Store} {p : Env × Store}, setTs ts ds env S = some p → ds.length = ts.length
  | [], [], _, _, _, _ => rfl
  | [], _ :: _, _, _, _, h => by cases h
  | _ :: _, [], _, _, _, h => by cases h
  | t :: ts, d :: ds, env, S, p, h => by
    unfold setTs at h
    split at h
    · simp [setTs_len h]
    · cases h
theorem gt_tup {es : List Expr} {k : Nat} {ts : List Tg} {n : Nat} (hc : X.calm = true) (h : GTgs N X es ts) (hl : ts.length = n)
    (hn : (assignEach es X.env).length = n := by rfl) (hst : (assignEach es X.env).findIdx? (·.1) = none := by rfl) : GTg N X (.Tuple es k pos) (.tp ts) :=
  PG.imp (pg_tup hc h hn hst) fun v σ H Q ⟨d, env, S, ρ, fr, rp, hq⟩ => by
    cases d with
    | tup ds =>
      obtain ⟨a, vs, ev, sq, q⟩ := rp
      have hq' : PostT X.K N ρ H (setTs ts ds env S) Q := by
        have : setT (.tp ts) (.tup ds) env S = setTs ts ds env S := by unfold setT; rfl
        rw [this] at hq
        exact hq
      cases e : setTs ts ds env S with
      | none => rw [e] at hq'; exact hq'.elim
      | some p => exact ⟨a, vs, ev, sq.1, (RepL.length q).trans ((setTs_len e).trans hl), ds, env, S, ρ, fr, q, hq'⟩
    | _ => exact (by unfold setT at hq; exact hq.elim)
def sSetT (t : Tg) (a : EM) : SM := fun env S => (a env S).st env fun d S1 => match setT t d env S1 with
  | some (e, S2) => .nx e S2
  | none => .stuck
theorem gs_setT {e tg : Expr} {t : Tg} {me : EM} (he : GE N X W e me) (hg : GTg N X tg t) (hs : swapsWithSole [tg] e pos.line X.env = pure false := by rfl) (hw : swappedStores [tg] e X.env = pure none := by rfl) (h1 : (assignEach [tg] X.env).map (·.2) = [assign tg X.env] := by rfl) : GS N X W (.Assign [tg] e pos) (sSetT t me) :=
  PS.imp (ps_asg he hg hs hw h1) fun E σ H ⟨env, S, ρ, fr, h⟩ => ⟨env, S, ρ, fr, PostO.E fr h fun d S1 ρ1 v H1 st r1 p1 h1 => by
    have f1 := fr.step st r1
    refine ⟨d, env, S1, ρ1, f1, p1, ?_⟩
    cases e : setT t d env S1 with
    | none => rw [e] at h1; exact h1.elim
    | some p =>
      obtain ⟨e', S2⟩ := p
      rw [e] at h1
      exact fun ρ2 σ2 H2 s2 f2 => h1 ρ2 σ2 H2 s2 f2⟩
end
end G
end

section
set_option Elab.async false
set_option linter.all false
set_option maxRecDepth 100000
set_option maxHeartbeats 4000000
/-! G13: instances: fields, methods, making; methods of lists. By an AI agent. -/
namespace G
open PySem PySem.Spec PyProof.Rows L2
variable [Cold]
/-- what a class of the program gives -/
structure ClsOk (K : PySem.W.Frag) (N : Nm) (c : Nat) : Prop where
  cls : Cls K (N.cad c)
  inj : ∀ j k, N.fnm j = N.fnm k → j = k
def FldOk (K : PySem.W.Frag) (N : Nm) (c k : Nat) : Prop := NoAttr K (N.cad c) (N.fnm k)
/-- none of these fields stands in it -/
def okFs (bad : List Nat) (fs : List (Nat × D)) : Bool := fs.all fun kv => !bad.any fun j => Nat.beq j kv.1
/-- o.m(e, ..): the receiver is an instance of class c, without these fields (their name is m) -/
def eMeth (bad : List Nat) (c : Nat) (f : FM) (o : EM) (a : AM) : EM := fun env S => (o env S).bnd fun x S1 => match x with
  | .ref n => match S1[n]? with
    | some (.ins c' fs) => if Nat.beq c' c && okFs bad fs then (a env S1).bnd fun xs S2 => f (.ref n :: xs) S2 else .stuck
    | _ => .stuck
  | _ => .stuck
section
variable {N : Nm} {X : Cx} {W : WX} {k : Nat} {f : Addr} {fd : FuncData} {ps : List Str} {fm : FM} {x m : Str} {p pos apos : Pos} {e o a : Expr} {es : List Expr} {me : AM} {mo ma : EM} {c j : Nat}
theorem ins_at {K : PySem.W.Frag} {ρ : Pl} {S : Store} {H : Hp} {n c' : Nat} {fs : List (Nat × D)} {u : V} (R : Rel K N ρ S H) (h : Rep K ρ H (.ref n) u) (e : S[n]? = some (.ins c' fs)) :
    ∃ a dx q, u = .ref a ∧ ρ.v[n]? = some a ∧ H a = some (.ins (N.cad c') dx q) ∧ RepF K N ρ H fs q := by
  obtain ⟨a, rfl, ea⟩ := h
  obtain ⟨a', h1, dx, q, h2, h3⟩ := R.at_ n _ e
  rw [ea] at h1; cases h1
  exact ⟨a, dx, q, rfl, ea, h2, h3⟩
theorem g_fld {fn : Str} (C : ClsOk X.K N c) (hf : FldOk X.K N c j) (hn : fn = N.fnm j) (ha : GE N X W a ma) (hb : attributeBase a fn X.env (eval a X.env) = eval a X.env := by rfl) : GE N X W (.Attribute a fn pos) (eUn (uFld c j) ma) := by
  subst hn
  refine PE.imp (pe_fld ha hb) fun σ H Q ⟨env, S, ρ, fr, h⟩ => ⟨env, S, ρ, fr, h.bE fun x S1 ρ1 u H1 st1 r1 p1 h1 => ?_⟩
  obtain ⟨d, e, h3⟩ := h1.ofO
  cases x with
  | ref n =>
    unfold uFld at e
    dsimp only at e
    cases hn : S1[n]? with
    | none => rw [hn] at e; cases e
    | some so =>
      rw [hn] at e
      cases so with
      | ins c' fs =>
        dsimp only at e
        split at e
        · rename_i hc
          have hc := Nat.eq_of_beq_eq_true hc
          subst hc
          obtain ⟨a, dx, q, rfl, _, h2, h4⟩ := ins_at r1 p1 hn
          obtain ⟨v, e1, e2⟩ := RepF.get (fun i hi => C.inj i j hi) h4 e
          exact ⟨a, _, dx, q, v, rfl, h2, C.cls, hf, e1, PostE.ok h3 r1 e2⟩
        · cases e
      | _ => cases e
  | _ => cases e
/-! ### o.f = .. as a target -/
def gFld (K : PySem.W.Frag) (to : TE) (f : Str) : TG := fun v σ H Q => to σ H fun x H1 => ∃ a C dx fs, x = .ref a ∧ H1 a = some (.ins C dx fs) ∧ Cls K C ∧ NoAttr K C f ∧ fs.length < 1000 ∧ Q σ (upd H1 a (.ins C dx (putF f v fs)))
theorem pg_fld {o : Expr} {f : Str} {to : TE} (ho : PE X o to) : PG X (.Attribute o f pos) (gFld X.K to f) := by
  refine ⟨fun pins s σ H v u Q I r h => ?_⟩
  rw [assign_Attribute]
  refine wpAny_bind (wpAny_holding (thn (ho.run pins s σ H _ I h) fun ov s1 ⟨x, H1, I1, r1, a, C, dx, fs, ex, ea, c, n, l, q⟩ => ?_))
  subst ex
  obtain rfl : ov = Value.ref a := r1
  refine wpAny_bind (wpAny_standAt (wpAny_bind (wpAny_holding (setattr_ok I1 ea c n l r fun s2 I2 => ?_))))
  exact wpAny_release ⟨σ, _, I2, q⟩
theorem RepF.length {K : PySem.W.Frag} {ρ : Pl} {H : Hp} : ∀ {fs : List (Nat × D)} {q : List (Str × V)}, RepF K N ρ H fs q → q.length = fs.length
  | [], q, h => by rw [show q = [] from h]; rfl
  | (k, d) :: r, q, h => by
    obtain ⟨v, q', rfl, _, h2⟩ := h
    simp [RepF.length h2]
theorem gt_fld {fn : Str} (C : ClsOk X.K N c) (hf : FldOk X.K N c j) (hn : fn = N.fnm j) (ho : GE N X WF o mo) : GTg N X (.Attribute o fn pos) (.fld mo c j) := by
  subst hn
  refine PG.imp (pg_fld ho) fun v σ H Q ⟨d, env, S, ρ, fr, rp, hq⟩ => ?_
  unfold setT at hq
  refine ⟨env, S, ρ, fr, ?_⟩
  cases e1 : mo env S with
  | stuck => rw [e1] at hq; exact hq.elim
  | exc c as S1 => rw [e1] at hq; exact hq.elim
  | ok x S1 =>
    rw [e1] at hq
    intro ρ1 xv H1 st1 r1 p1
    cases x with
    | ref n =>
      dsimp only at hq
      cases hn : S1[n]? with
      | none => rw [hn] at hq; exact hq.elim
      | some so =>
        rw [hn] at hq
        cases so with
        | ins c' fs =>
          dsimp only at hq
          split at hq
          · rename_i hc
            rw [Bool.and_eq_true] at hc
            have hc1 := Nat.eq_of_beq_eq_true hc.1
            subst hc1
            obtain ⟨a, dx, q, rfl, ea, h2, h4⟩ := ins_at r1 p1 hn
            have hl : q.length < 1000 := by
              rw [RepF.length h4]
              have : fs.length < 900 := by simpa [Nat.blt_eq] using hc.2
              omega
            refine ⟨a, _, dx, q, rfl, h2, C.cls, hf, hl, ?_⟩
            have st : Step ρ1 H1 ρ1 (upd H1 a (.ins (N.cad c') dx (putF (N.fnm j) v q))) := Step.write (List.mem_of_getElem? ea)
            have hd := Rep.keep fr.rel st1 _ _ rp
            have R2 := r1.write ea (so := .ins c' (fput j d fs)) (fun _ _ z => by rw [h2] at z; cases z) ⟨dx, _, upd_same, RepF.keep r1 st _ _ (RepF.put (fun i hi => C.inj i j hi) hd h4)⟩
            exact hq ρ1 σ _ (st1.trans st) ((fr.step st1 r1).step st R2)
          · exact hq.elim
        | _ => exact hq.elim
    | _ => exact hq.elim
/-! ### o.m(..) -/
theorem RepF.look {K : PySem.W.Frag} {ρ : Pl} {H : Hp} {bad : List Nat} (hm : ∀ i, (bad.any fun j => Nat.beq j i) = false → N.fnm i ≠ m) : ∀ {fs : List (Nat × D)} {q : List (Str × V)}, okFs bad fs = true → RepF K N ρ H fs q → q.lookup m = none
  | [], q, _, h => by rw [show q = [] from h]; rfl
  | (k, d) :: r, q, o, h => by
    obtain ⟨v, q', rfl, _, h2⟩ := h
    obtain ⟨o1, o2⟩ := Bool.and_eq_true_iff.mp (show (!(bad.any fun j => Nat.beq j k) && okFs bad r) = true from o)
    rw [List.lookup_cons, show (m == N.fnm k) = false from beq_eq_false_iff_ne.mpr fun z => hm k (by simpa using o1) z.symm]
    exact RepF.look hm o2 h2
theorem g_meth {pl : Sem Bool} (C : ClsOk X.K N c) (hM : Meth X.K (N.cad c) m f) {bad : List Nat} (hnm : ∀ i, (bad.any fun j => Nat.beq j i) = false → N.fnm i ≠ m) (F : GF X.prog X.w X.K X.mg X.base N k f fd ps fm) (tk : Takes X W) (hr : Room k X.A) (hb : Binds X.K fd ps []) (hl : (e :: es).length + 1 = ps.length)
    (ho : GE N X W o mo) (ha : GA N X W (e :: es) me) (hn : ∀ env S ds S', me env S = .ok ds S' → ds.length = (e :: es).length)
    (hst : starEach (e :: es) X.env = (false, eval e X.env) :: starEach es X.env := by rfl) (hpl : (backTo pos (starEach es X.env)).any (·.1) = false := by rfl)
    (ht : eval (.Call (.Attribute o m apos) (e :: es) [] pos) X.env = (do
      let ov ← eval o X.env
      standAt apos.atName
      let (f, first) ← holding [ov] (getMethod ov m pl)
      callWith pos f first (backTo pos (starEach (e :: es) X.env)) (backToKw pos (keywordEach [] X.env))) := by rfl) :
    GE N X W (.Call (.Attribute o m apos) (e :: es) [] pos) (eMeth bad c fm mo me) := by
  refine ⟨fun pins s σ H Q I ⟨env, S, ρ, fr, h⟩ => ?_⟩
  refine PySem.W.methodCall_KW (pl := pl) (thn (ho.run pins s σ H (fun u H1 => ∃ n fs S1 ρ1, (S1[n]? = some (.ins c fs) ∧ okFs bad fs = true) ∧ Step ρ H ρ1 H1 ∧ Rel X.K N ρ1 S1 H1 ∧ Rep X.K ρ1 H1 (.ref n) u ∧ PostE X.K N W ρ1 σ H1 ((me env S1).bnd fun xs S2 => fm (.ref n :: xs) S2) Q) I
    ⟨env, S, ρ, fr, ?_⟩) fun u s1 ⟨x, H1, I1, rx, n, fs, S1, ρ1, ⟨hS, hfs⟩, st1, r1, p1, h1⟩ => ?_) ht
  · refine PostE.bE h fun x S1 ρ1 u H1 st1 r1 p1 h1 => ?_
    cases x with
    | ref n =>
      dsimp only at h1
      cases hS : S1[n]? with
      | none => rw [hS] at h1; exact h1.elim
      | some so =>
        rw [hS] at h1
        cases so with
        | ins c' fs =>
          dsimp only at h1
          split at h1
          · rename_i hc
            rw [Bool.and_eq_true] at hc
            have hc1 := Nat.eq_of_beq_eq_true hc.1
            subst hc1
            exact ⟨n, fs, S1, ρ1, ⟨hS, hc.2⟩, st1, r1, p1, h1⟩
          · exact h1.elim
        | _ => exact h1.elim
    | _ => exact h1.elim
  · obtain ⟨a, dx, q, rfl, ea, h2, h4⟩ := ins_at r1 p1 hS
    obtain rfl : u = Value.ref a := rx
    refine getmeth_ok I1 h2 C.cls hM (RepF.look hnm hfs h4) ?_
    have hA : tA_ X.K N W me σ H1 fun vs H2 => ∃ ds S2 ρ2, Step ρ1 H1 ρ2 H2 ∧ Rel X.K N ρ2 S2 H2 ∧ RepL X.K ρ2 H2 ds vs ∧ ds.length = (e :: es).length ∧ PostE X.K N W ρ2 σ H2 (fm (.ref n :: ds) S2) Q := by
      refine ⟨env, S1, ρ1, fr.step st1 r1, ?_⟩
      have hn' := hn env S1
      cases hme : me env S1 with
      | ok ds S2 =>
        rw [hme] at h1
        exact fun ρ2 us H2 st2 r2 p2 => ⟨ds, S2, ρ2, st2, r2, p2, hn' _ _ hme, PostE.step st2 h1⟩
      | exc c as S2 => rw [hme] at h1; exact h1
      | stuck => rw [hme] at h1; exact h1
    refine PySem.W.callWith_K (first := [.ref a]) (h₀ := X.base) I1.ok.mod.kin hM.kp (thn (ha.run pos pins s1 σ H1 _ I1 hA) fun us s2 ⟨vs, H2, I2, r, ds, S2, ρ2, st2, r2, p2, hlen, h3⟩ => ⟨I2.kIn, ?_⟩) hst hpl
    refine run_fnS (us := .ref a :: us) (vs := .ref a :: vs) (E := WE W) F hr hb (passAt tk σ) I2 (.cons rfl r) ⟨.ref n :: ds, S2, ρ2, r2, ⟨_, _, rfl, Rep.keep r1 st2 _ _ p1, p2⟩, ?_, h3.call⟩
    rw [← hl]
    simp [hlen]
end
end G
end

section
set_option Elab.async false
set_option linter.all false
set_option maxRecDepth 100000
set_option maxHeartbeats 4000000
/-! G14: methods without arguments, making, methods of lists, {}. By an AI agent. -/
namespace G
open PySem PySem.Spec PyProof.Rows L2
variable [Cold]
section
variable {N : Nm} {X : Cx} {W : WX} {k : Nat} {f : Addr} {fd : FuncData} {ps : List Str} {fm : FM} {x m : Str} {p pos apos : Pos} {e o a : Expr} {es : List Expr} {me : AM} {mo ma : EM} {c j : Nat}
theorem g_meth0 {pl : Sem Bool} (C : ClsOk X.K N c) (hM : Meth X.K (N.cad c) m f) {bad : List Nat} (hnm : ∀ i, (bad.any fun j => Nat.beq j i) = false → N.fnm i ≠ m) (F : GF X.prog X.w X.K X.mg X.base N k f fd ps fm) (tk : Takes X W) (hr : Room k X.A) (hb : Binds X.K fd ps []) (hl : 1 = ps.length)
    (ho : GE N X W o mo)
    (ht : eval (.Call (.Attribute o m apos) [] [] pos) X.env = (do
      let ov ← eval o X.env
      standAt apos.atName
      let (f, first) ← holding [ov] (getMethod ov m pl)
      callWith pos f first (backTo pos (starEach [] X.env)) (backToKw pos (keywordEach [] X.env))) := by rfl) :
    GE N X W (.Call (.Attribute o m apos) [] [] pos) (eMeth bad c fm mo aNil) := by
  refine ⟨fun pins s σ H Q I ⟨env, S, ρ, fr, h⟩ => ?_⟩
  refine PySem.W.methodCall_KW (pl := pl) (thn (ho.run pins s σ H (fun u H1 => ∃ n fs S1 ρ1, (S1[n]? = some (.ins c fs) ∧ okFs bad fs = true) ∧ Step ρ H ρ1 H1 ∧ Rel X.K N ρ1 S1 H1 ∧ Rep X.K ρ1 H1 (.ref n) u ∧ PostE X.K N W ρ1 σ H1 (fm [.ref n] S1) Q) I
    ⟨env, S, ρ, fr, ?_⟩) fun u s1 ⟨x, H1, I1, rx, n, fs, S1, ρ1, ⟨hS, hfs⟩, st1, r1, p1, h1⟩ => ?_) ht
  · refine PostE.bE h fun x S1 ρ1 u H1 st1 r1 p1 h1 => ?_
    cases x with
    | ref n =>
      dsimp only at h1
      cases hS : S1[n]? with
      | none => rw [hS] at h1; exact h1.elim
      | some so =>
        rw [hS] at h1
        cases so with
        | ins c' fs =>
          dsimp only at h1
          split at h1
          · rename_i hc
            rw [Bool.and_eq_true] at hc
            have hc1 := Nat.eq_of_beq_eq_true hc.1
            subst hc1
            exact ⟨n, fs, S1, ρ1, ⟨hS, hc.2⟩, st1, r1, p1, h1⟩
          · exact h1.elim
        | _ => exact h1.elim
    | _ => exact h1.elim
  · obtain ⟨a, dx, q, rfl, ea, h2, h4⟩ := ins_at r1 p1 hS
    obtain rfl : u = Value.ref a := rx
    refine getmeth_ok I1 h2 C.cls hM (RepF.look hnm hfs h4) ?_
    exact PySem.W.callWith_K0 (first := [.ref a]) I1.kIn hM.kp (run_fnS (us := [.ref a]) (vs := [.ref a]) (E := WE W) F hr hb (passAt tk σ) I1 (.cons rfl .nil) ⟨[.ref n], S1, ρ1, r1, ⟨_, _, rfl, p1, rfl⟩, hl, h1.call⟩)
/-! ### C(..) -/
theorem run_makeS {pins : List (Addr × Obj)} {σ : L2.St} {H : Hp} {s : Shared} {Q : VK} {us : List Value} {vs : List V} {C f : Addr} {CX : CXT} {sp : Sp} {E : L2.St → XK} (M : Mk X.K C f) (F : FnOk X.prog X.w X.K X.mg X.base CX k f fd ps sp) (hr : Room (k + 1) X.A) (hb : Binds X.K fd ps [])
    (hx : PassesAt CX X σ (E σ)) (I : Inv X pins σ H s) (r : Vals vs us)
    (h : ∀ x dx, H x = none → H dx = none → dx ≠ x → sp (.ref x :: vs) (upd (upd H dx (.own x)) x (.ins C dx [])) (fun v H2 => v = .non ∧ Q (.ref x) H2) (E σ)) :
    wpAny (model X.prog X.w) X.A (call (.ref C) us) (EP X pins σ Q) X.xe s := by
  have hq := h (s.heap.objs.size + 1) s.heap.objs.size (I.hok.fresh (Nat.le_succ _)) (I.hok.fresh (Nat.le_refl _)) (Nat.ne_of_lt (Nat.lt_succ_self _))
  have I2 := Inv.made (C := C) I
  have r2 : Vals (V.ref (s.heap.objs.size + 1) :: vs) (Value.ref (s.heap.objs.size + 1) :: us) := .cons rfl r
  have hl : (Value.ref (s.heap.objs.size + 1) :: us ++ []).length = ps.length := by
    have e := r2.length
    rw [F.len _ _ _ _ hq] at e
    rw [List.append_nil]
    exact e.symm
  have b := hb _ (Value.ref (s.heap.objs.size + 1) :: us) I2.kIn hl
  rw [List.append_nil] at b
  refine wpAny_call (make_map (f := f) I.kIn M.makes M.init (beq_iff_eq.mp M.fn) (codeAny_mono (F.run _ X.stack _ _ ⟨Value.ref (s.heap.objs.size + 1) :: us, []⟩ (Value.ref (s.heap.objs.size + 1) :: us) _ _ (E σ) (hr.make C us [])
    (I2.env0.make C us []) b r2 hq) fun r s' hq' => ?_))
  cases r with
  | error e => exact hx pins _ _ e s' I2 hq'
  | ok fl =>
    cases fl with
    | ret u =>
      obtain ⟨v, H', I3, rv, ev, q3⟩ := I2.after hq'
      subst ev
      exact ⟨rv, ⟨V.ref (s.heap.objs.size + 1), H', I3, rfl, q3⟩⟩
    | next => exact False.elim hq'
    | brk => exact False.elim hq'
    | cont => exact False.elim hq'
theorem ins_push {K : PySem.W.Frag} {ρ : Pl} {S : Store} {H : Hp} {y dx : Addr} (R : Rel K N ρ S H) (hy : H y = none) (hd : H dx = none) (hne : dx ≠ y) :
    Step ρ H (ρ.push y) (upd (upd H dx (.own y)) y (.ins (N.cad c) dx [])) ∧ Rel K N (ρ.push y) (S ++ [.ins c []]) (upd (upd H dx (.own y)) y (.ins (N.cad c) dx [])) ∧ Rep K (ρ.push y) (upd (upd H dx (.own y)) y (.ins (N.cad c) dx [])) (.ref S.length) (.ref y) := by
  have h2 : upd H dx (.own y) y = none := by rw [upd_ne (Ne.symm hne)]; exact hy
  refine ⟨(Step.fresh hd).trans (Step.push h2), (R.fresh hd).push (so := .ins c []) h2 ⟨dx, [], upd_same, rfl⟩, y, rfl, ?_⟩
  show (ρ.v ++ [y])[S.length]? = some y
  rw [← R.len]; simp
theorem g_make (M : Mk X.K (N.cad c) f) (F : GF X.prog X.w X.K X.mg X.base N k f fd ps fm) (tk : Takes X W) (hr : Room (k + 1) X.A) (hm : X.mg x = some (.ref (N.cad c))) (hb : Binds X.K fd ps []) (hl : (e :: es).length + 1 = ps.length)
    (ha : GA N X W (e :: es) me) (hn : ∀ env S ds S', me env S = .ok ds S' → ds.length = (e :: es).length) (hg : Gl X x := by rfl) (hdb : (x == ("__debug__" : Str)) = false := by decide)
    (he : starEach (e :: es) X.env = (false, eval e X.env) :: starEach es X.env := by rfl) (hpl : (backTo pos (starEach es X.env)).any (·.1) = false := by rfl) : GE N X W (.Call (.Name x p) (e :: es) [] pos) (eMake c fm me) := by
  refine ⟨fun pins s σ H Q I ⟨env, S, ρ, fr, h⟩ => ?_⟩
  refine wpAny_Call_Name_kw (ld_glob I hg hm ?_ hdb)
  have hA : tA_ X.K N W me σ H fun vs H1 => ∃ ds S1 ρ1, Rel X.K N ρ1 S1 H1 ∧ RepL X.K ρ1 H1 ds vs ∧ ds.length = (e :: es).length ∧ PostE X.K N W ρ1 σ H1 ((fm (.ref S1.length :: ds) (S1 ++ [.ins c []])).bnd fun d S2 => match d with
      | .non => .ok (.ref S1.length) S2
      | _ => .stuck) Q := by
    refine ⟨env, S, ρ, fr, ?_⟩
    have hn' := hn env S
    unfold eMake at h
    cases hme : me env S with
    | ok ds S2 =>
      rw [hme] at h
      exact fun ρ2 us H2 st2 r2 p2 => ⟨ds, S2, ρ2, r2, p2, hn' _ _ hme, PostE.step st2 h⟩
    | exc c as S2 => rw [hme] at h; exact h
    | stuck => rw [hme] at h; exact h
  refine PySem.W.callWith_K (h₀ := X.base) I.ok.mod.kin M.kp (thn (ha.run pos pins s σ H _ I hA) fun us s1 ⟨vs, H1, I1, r, ds, S1, ρ1, r1, p1, hlen, h1⟩ => ⟨I1.kIn, ?_⟩) he hpl
  refine run_makeS (E := WE W) M F hr hb (passAt tk σ) I1 r fun y dx hy hdx hne => ?_
  obtain ⟨a1, a2, a3⟩ := ins_push (c := c) r1 hy hdx hne
  refine ⟨.ref S1.length :: ds, S1 ++ [.ins c []], ρ1.push y, a2, ⟨_, _, rfl, a3, RepL.keep r1 a1 _ _ p1⟩, by rw [← hl]; simp [hlen], ?_⟩
  have h2 := PostE.step a1 h1
  cases hf : fm (.ref S1.length :: ds) (S1 ++ [.ins c []]) with
  | stuck => rw [hf] at h2; exact h2.elim
  | exc c' as S2 => rw [hf] at h2; exact h2
  | ok d S2 =>
    rw [hf] at h2
    intro ρ3 v H3 st3 r3 p3
    cases d with
    | non =>
      refine ⟨p3, ?_⟩
      exact h2 ρ3 (.ref y) H3 st3 r3 (Rep.keep a2 st3 _ _ a3)
    | _ => exact h2.elim
/-! ### methods of lists -/
theorem lst_at {K : PySem.W.Frag} {ρ : Pl} {S : Store} {H : Hp} {n : Nat} {xs : List D} {u : V} (R : Rel K N ρ S H) (h : Rep K ρ H (.ref n) u) (e : S[n]? = some (.lst xs)) :
    ∃ a vs, u = .ref a ∧ ρ.v[n]? = some a ∧ H a = some (.lst vs) ∧ RepL K ρ H xs vs := by
  obtain ⟨a, rfl, ea⟩ := h
  obtain ⟨a', h1, vs, h2, h3⟩ := R.at_ n _ e
  rw [ea] at h1; cases h1
  exact ⟨a, vs, rfl, ea, h2, h3⟩
theorem isL_ty {K : PySem.W.Frag} {ρ : Pl} {S : Store} {H : Hp} {x : D} {u : V} (R : Rel K N ρ S H) (h : Rep K ρ H x u) (e : isL S x = true) : tyV K "list" u H := by
  cases x with
  | ref n =>
    unfold isL at e
    dsimp only at e
    split at e
    · rename_i xs hx
      obtain ⟨a, vs, rfl, ea, h2, h3⟩ := lst_at R h hx
      exact .inl ⟨rfl, vs, SqL.of h2⟩
    · cases e
  | _ => cases e
theorem pushL_ok {K : PySem.W.Frag} {ρ : Pl} {S S' : Store} {H : Hp} {x : D} {u : V} {ys : List D} {ws : List V} (R : Rel K N ρ S H) (h : Rep K ρ H x u) (hw : RepL K ρ H ys ws) (e : pushL S x ys = some S') :
    ∃ a vs, u = .ref a ∧ H a = some (.lst vs) ∧ vs.length + ws.length < sizeLine ∧ Step ρ H ρ (upd H a (.lst (vs ++ ws))) ∧ Rel K N ρ S' (upd H a (.lst (vs ++ ws))) := by
  cases x with
  | ref n =>
    unfold pushL at e
    dsimp only at e
    split at e
    · rename_i xs hx
      split at e
      · rename_i hl
        cases e
        obtain ⟨a, vs, rfl, ea, h2, h3⟩ := lst_at R h hx
        have st : Step ρ H ρ (upd H a (.lst (vs ++ ws))) := Step.write (List.mem_of_getElem? ea)
        exact ⟨a, vs, rfl, h2, by rw [RepL.length h3, RepL.length hw]; exact lt_line hl, st, R.write ea (so := .lst (xs ++ ys)) (fun _ _ z => by rw [h2] at z; cases z) ⟨_, upd_same, RepL.keep R st _ _ (h3.app hw)⟩⟩
      · cases e
    · cases e
  | _ => cases e
theorem g_append {b : Expr} {mb : EM} (ha : GE N X W a ma) (hb : GE N X W b mb) (hbase : attributeBase a (PySem.Str.ofString "append") X.env (eval a X.env) = eval a X.env := by rfl)
    (hfew : ((backTo pos (starEach [b] X.env)).all (fun x => !x.1) && (backToKw pos (keywordEach [] X.env)).all (fun x => x.1.isSome)
      && decide (([b] : List Expr).length + ([] : List Keyword).length + (if ([] : List Keyword).isEmpty then 0 else 1) < 30)) = true := by rfl)
    (hline : (apos.endLine == pos.line) = true := by rfl) (hs : starEach [b] X.env = (false, eval b X.env) :: starEach [] X.env := by rfl) (hplain : (backTo pos (starEach [] X.env)).any (·.1) = false := by rfl) :
    GE N X W (.Call (.Attribute a (PySem.Str.ofString "append") apos) [b] [] pos) (eAppend ma mb) :=
  PE.imp (pe_bm PySem.F.plainAttrs_list PySem.F.slot_list_append PySem.F.type_list_append mt_append ha (pa_cons hb pa_nil hs) hbase hfew hline hs hplain) fun σ H Q ⟨env, S, ρ, fr, h⟩ => ⟨env, S, ρ, fr, h.bE fun x S1 ρ1 u H1 st1 r1 p1 h1 => by
    cases hL : isL S1 x with
    | false => rw [hL] at h1; exact h1.elim
    | true =>
      rw [hL] at h1
      refine ⟨isL_ty r1 p1 hL, env, S1, ρ1, fr.step st1 r1, PostE.bE h1 fun y S2 ρ2 w H2 st2 r2 p2 h2 => ?_⟩
      cases hp : pushL S2 x [y] with
      | none => rw [hp] at h2; exact h2.elim
      | some S3 =>
        rw [hp] at h2
        obtain ⟨b, vs, eu, h3, hl, st, r3⟩ := pushL_ok r2 (Rep.keep r1 st2 _ _ p1) (ys := [y]) (ws := [w]) ⟨w, [], rfl, p2, rfl⟩ hp
        have hl2 : vs.length < sizeLine := by simp at hl; omega
        exact (⟨b, vs, w, eu, rfl, h3, hl2, h2 ρ2 .non _ st r3 rfl⟩ : rAppend u [w] H2 Q)⟩
theorem g_extend {b : Expr} {mb : EM} (ha : GE N X W a ma) (hb : GE N X W b mb) (hbase : attributeBase a (PySem.Str.ofString "extend") X.env (eval a X.env) = eval a X.env := by rfl)
    (hfew : ((backTo pos (starEach [b] X.env)).all (fun x => !x.1) && (backToKw pos (keywordEach [] X.env)).all (fun x => x.1.isSome)
      && decide (([b] : List Expr).length + ([] : List Keyword).length + (if ([] : List Keyword).isEmpty then 0 else 1) < 30)) = true := by rfl)
    (hline : (apos.endLine == pos.line) = true := by rfl) (hs : starEach [b] X.env = (false, eval b X.env) :: starEach [] X.env := by rfl) (hplain : (backTo pos (starEach [] X.env)).any (·.1) = false := by rfl) :
    GE N X W (.Call (.Attribute a (PySem.Str.ofString "extend") apos) [b] [] pos) (eExtend ma mb) :=
  PE.imp (pe_bm PySem.F.plainAttrs_list PySem.F.slot_list_extend PySem.F.type_list_extend mt_extend ha (pa_cons hb pa_nil hs) hbase hfew hline hs hplain) fun σ H Q ⟨env, S, ρ, fr, h⟩ => ⟨env, S, ρ, fr, h.bE fun x S1 ρ1 u H1 st1 r1 p1 h1 => by
    cases hL : isL S1 x with
    | false => rw [hL] at h1; exact h1.elim
    | true =>
      rw [hL] at h1
      refine ⟨isL_ty r1 p1 hL, env, S1, ρ1, fr.step st1 r1, PostE.bE h1 fun y S2 ρ2 w H2 st2 r2 p2 h2 => ?_⟩
      cases hr : rd S2 y with
      | lst ys =>
        rw [hr] at h2
        dsimp only at h2
        obtain ⟨b2, ws, eb, hb2, rb⟩ := rd_lst r2 p2 hr
        cases hp : pushL S2 x ys with
        | none => rw [hp] at h2; exact h2.elim
        | some S3 =>
          rw [hp] at h2
          obtain ⟨b, vs, eu, h3, hl, st, r3⟩ := pushL_ok r2 (Rep.keep r1 st2 _ _ p1) rb hp
          exact (⟨b, b2, vs, ws, eu, by rw [eb], h3, hb2, Nat.le_of_lt hl, h2 ρ2 .non _ st r3 rfl⟩ : rExtend u [w] H2 Q)
      | _ => rw [hr] at h2; exact h2.elim⟩
/-! ### {} -/
def eNewK : EM := fun _ S => .ok (.ref S.length) (S ++ [.dicK []])
def eNewT : EM := fun _ S => .ok (.ref S.length) (S ++ [.dicT []])
theorem dk_push {K : PySem.W.Frag} {ρ : Pl} {S : Store} {H : Hp} {p : Addr} (r : Rel K N ρ S H) (hp : H p = none) :
    Step ρ H (ρ.push p) (upd H p (.dK [])) ∧ Rel K N (ρ.push p) (S ++ [.dicK []]) (upd H p (.dK [])) ∧ Rep K (ρ.push p) (upd H p (.dK [])) (.ref S.length) (.ref p) :=
  ⟨Step.push hp, r.push (so := .dicK []) hp ⟨[], upd_same, rfl⟩, p, rfl, by
    show (ρ.v ++ [p])[S.length]? = some p
    rw [← r.len]; simp⟩
theorem dt_push {K : PySem.W.Frag} {ρ : Pl} {S : Store} {H : Hp} {p : Addr} (r : Rel K N ρ S H) (hp : H p = none) :
    Step ρ H (ρ.push p) (upd H p (.dT [])) ∧ Rel K N (ρ.push p) (S ++ [.dicT []]) (upd H p (.dT [])) ∧ Rep K (ρ.push p) (upd H p (.dT [])) (.ref S.length) (.ref p) :=
  ⟨Step.push hp, r.push (so := .dicT []) hp ⟨[], upd_same, rfl⟩, p, rfl, by
    show (ρ.v ++ [p])[S.length]? = some p
    rw [← r.len]; simp⟩
theorem g_newK : GE N X W (.Dict [] [] pos) eNewK := PE.imp pe_dnewK fun σ H Q ⟨env, S, ρ, fr, h⟩ p hp => by
  obtain ⟨a1, a2, a3⟩ := dk_push fr.rel hp
  exact h _ _ _ a1 a2 a3
theorem g_newT : GE N X W (.Dict [] [] pos) eNewT := PE.imp pe_dnewT fun σ H Q ⟨env, S, ρ, fr, h⟩ p hp => by
  obtain ⟨a1, a2, a3⟩ := dt_push fr.rel hp
  exact h _ _ _ a1 a2 a3
end
end G
end

section
set_option Elab.async false
set_option linter.all false
set_option maxRecDepth 100000
set_option maxHeartbeats 4000000
/-! G15: comparisons as tests, is None, chains, -x. By an AI agent. -/
namespace G
open PySem PySem.Spec PyProof.Rows L2
variable [Cold]
section
variable {N : Nm} {X : Cx} {W : WX} {a b c : Expr} {ma mb mc m : EM} {pos pos' : Pos}
/-- a value that is tested -/
theorem PostB.tV {K : PySem.W.Frag} {env : Env} {S : Store} {ρ : Pl} {σ : L2.St} {H : Hp} {Q : Bool → Hp → Prop} (h : PostB K N W ρ σ H (tV m env S) Q) : PostE K N W ρ σ H (m env S) fun x H1 => ∃ k, x = .bl k ∧ Q k H1 :=
  PostB.bE h fun x S1 ρ1 u H1 st1 r1 p1 h1 => by
    cases x with
    | bl k => exact ⟨k, p1, h1.ok r1⟩
    | _ => exact h1.elim
theorem gt_pc {op : CmpOp} {t : TE} (h : PC X op a b t) (i : ∀ σ H Q, tE X.K N W m σ H Q → t σ H Q) (h1 : behindInMarks op b = false) : GT N X W (.Compare a [op] [b] pos) (tV m) :=
  PT.imp (pt_cmp h h1) fun σ H Q ⟨env, S, ρ, fr, h⟩ => i _ _ _ ⟨env, S, ρ, fr, h.tV⟩
theorem gt_cmp {op : CmpOp} {r : R2} {f : Store → D → D → Option D} (ho : OpR X (compareOp op) r) (hg : OpG N X r f) (hm : behindInMarks op b = false) (ha : GE N X W a ma) (hb : GE N X W b mb) : GT N X W (.Compare a [op] [b] pos) (tV (eBin f ma mb)) :=
  PT.imp (pt_cmpR ho ha hb hm) fun σ H Q ⟨env, S, ρ, fr, h⟩ => two hg ⟨env, S, ρ, fr, h.tV⟩
def isNonD : D → Bool
  | .non => true
  | _ => false
theorem rep_non {K : PySem.W.Frag} {ρ : Pl} {H : Hp} {d : D} {u : V} (h : Rep K ρ H d u) : decide (u = .non) = isNonD d := by
  cases d with
  | non => rw [show u = .non from h]; rfl
  | bl k => rw [show u = .bl k from h]; rfl
  | int k => rw [show u = .int k from h]; rfl
  | str k => rw [show u = .str _ from h]; rfl
  | tup k => obtain ⟨p, vs, rfl, _⟩ := h; rfl
  | lst k => obtain ⟨p, vs, rfl, _⟩ := h; rfl
  | ref k => obtain ⟨p, rfl, _⟩ := h; rfl
  | scr k => obtain ⟨p, rfl, _⟩ := h; rfl
  | dct k v => obtain ⟨p, _, _, _, rfl, _⟩ := h; rfl
  | err => exact h.elim
theorem isN_i (σ : L2.St) (H : Hp) (Q : VK) (h : tE X.K N W (eUn uIsN ma) σ H Q) : tIsN (tE X.K N W ma) σ H Q := by
  obtain ⟨env, S, ρ, fr, h⟩ := h
  refine ⟨env, S, ρ, fr, h.bE fun x S1 ρ1 u H1 st1 r1 p1 h1 => ?_⟩
  obtain ⟨d, e, h2⟩ := h1.ofO
  rw [rep_non p1]
  cases x <;> (cases e; exact PostE.ok h2 r1 rfl)
theorem notN_i (σ : L2.St) (H : Hp) (Q : VK) (h : tE X.K N W (eUn uNotN ma) σ H Q) : tNotN (tE X.K N W ma) σ H Q := by
  obtain ⟨env, S, ρ, fr, h⟩ := h
  refine ⟨env, S, ρ, fr, h.bE fun x S1 ρ1 u H1 st1 r1 p1 h1 => ?_⟩
  obtain ⟨d, e, h2⟩ := h1.ofO
  rw [rep_non p1]
  cases x <;> (cases e; exact PostE.ok h2 r1 rfl)
theorem g_isN {j} (ha : GE N X W a ma) : GE N X W (.Compare a [.Is] [.Constant .none j pos'] pos) (eUn uIsN ma) := PE.imp (pe_cmp (pc_isN ha) (nobehind _ (by decide) (by decide))) isN_i
theorem g_notN {j} (ha : GE N X W a ma) : GE N X W (.Compare a [.IsNot] [.Constant .none j pos'] pos) (eUn uNotN ma) := PE.imp (pe_cmp (pc_notN ha) (nobehind _ (by decide) (by decide))) notN_i
theorem gt_isN {j} (ha : GE N X W a ma) : GT N X W (.Compare a [.Is] [.Constant .none j pos'] pos) (tV (eUn uIsN ma)) := gt_pc (pc_isN ha) isN_i (nobehind _ (by decide) (by decide))
theorem gt_notN {j} (ha : GE N X W a ma) : GT N X W (.Compare a [.IsNot] [.Constant .none j pos'] pos) (tV (eUn uNotN ma)) := gt_pc (pc_notN ha) notN_i (nobehind _ (by decide) (by decide))
/-! ### chains -/
theorem chain_i {r r' : R2} {f g : Store → D → D → Option D} (hf : OpG N X r f) (hg : OpG N X r' g) {σ : L2.St} {H : Hp} {Q : VK} (h : tE X.K N W (eChain f g ma mb mc) σ H Q) : tChain r r' (tE X.K N W ma) (tE X.K N W mb) (tE X.K N W mc) σ H Q := by
  obtain ⟨env, S, ρ, fr, h⟩ := h
  refine ⟨env, S, ρ, fr, h.bE fun x S1 ρ1 u H1 st1 r1 p1 h1 => ?_⟩
  refine ⟨env, S1, ρ1, fr.step st1 r1, h1.bE fun y S2 ρ2 v H2 st2 r2 p2 h2 => ?_⟩
  cases e : f S2 x y with
  | none => rw [e] at h2; exact h2.elim
  | some d =>
    rw [e] at h2
    refine hf S2 ρ2 H2 x y d u v _ r2 (Rep.keep r1 st2 _ _ p1) p2 e fun ρ3 z H3 st3 r3 p3 => ?_
    cases d with
    | bl k =>
      refine ⟨k, p3, ?_⟩
      cases k with
      | true =>
        rw [if_pos rfl]
        refine ⟨env, S2, ρ3, ((fr.step st1 r1).step st2 r2).step st3 r3, (PostE.step st3 h2).bE fun w S4 ρ4 t H4 st4 r4 p4 h4 => ?_⟩
        obtain ⟨d2, e2, h5⟩ := h4.ofO
        exact hg S4 ρ4 H4 y w d2 v t Q r4 (Rep.keep r3 st4 _ _ (Rep.keep r2 st3 _ _ p2)) p4 e2 fun ρ' z H' st r p => h5 ρ' z H' st r p
      | false =>
        rw [if_neg Bool.false_ne_true]
        exact (PostE.step st3 h2).ok r3 rfl
    | _ => exact h2.elim
theorem g_chain {op op' : CmpOp} {r r' : R2} {f g : Store → D → D → Option D} (ho : OpR X (compareOp op) r) (ho' : OpR X (compareOp op') r') (hf : OpG N X r f) (hg : OpG N X r' g) (ha : GE N X W a ma) (hb : GE N X W b mb) (hc : GE N X W c mc)
    (hm : lastMarks [op, op'] [b, c] = false := by with_unfolding_all rfl) : GE N X W (.Compare a [op, op'] [b, c] pos) (eChain f g ma mb mc) :=
  PE.imp (pe_chain ho ho' ha hb hc hm) fun _ _ _ h => chain_i hf hg h
theorem gt_chain {op op' : CmpOp} {r r' : R2} {f g : Store → D → D → Option D} (ho : OpR X (compareOp op) r) (ho' : OpR X (compareOp op') r') (hf : OpG N X r f) (hg : OpG N X r' g) (ha : GE N X W a ma) (hb : GE N X W b mb) (hc : GE N X W c mc)
    (hm : lastMarks [op, op'] [b, c] = false := by with_unfolding_all rfl) : GT N X W (.Compare a [op, op'] [b, c] pos) (tV (eChain f g ma mb mc)) :=
  PT.imp (pt_chain ho ho' ha hb hc hm) fun σ H Q ⟨env, S, ρ, fr, h⟩ => chain_i hf hg ⟨env, S, ρ, fr, h.tV⟩
/-! ### -x -/
theorem ug_neg : UnG N X (rU fun i => .int (-i)) uNeg := by
  intro S ρ H x d u Q R rx e q
  cases x <;> first | (cases e; done) | skip
  cases e
  exact ⟨_, rx, q ρ _ H (Step.refl _ _) R rfl⟩
theorem g_neg (ha : GE N X W a ma) : GE N X W (.UnaryOp .USub a pos) (eUn uNeg ma) := g_un un_neg ug_neg ha
end
end G
end

section
set_option Elab.async false
set_option linter.all false
set_option maxRecDepth 100000
set_option maxHeartbeats 4000000
/-! GE1: enumerate over a tuple. By an AI agent. -/
namespace GEn
open PySem PySem.Spec PyProof.Rows L2
open PySem.AutoSeq1 (wpAny_loadPart')
theorem meets_enumerate_newT (l : Addr) (items : Array Value) (n : Nat) (dct : Option Addr) (sl : Array (Option Value)) :
    Meets (Builtin.«enumerate.__new__» ⟨[.type "enumerate", .ref l], []⟩) (fun _ R s => s.heap.get? l = some { cls := .type "tuple", dict := dct, data := .seq items n, slots := sl } ∧
      R (.ok (.ret (.ref (s.heap.push { cls := .type "tuple_iterator", data := .fields #[.ref l, .int 0 0] }).objs.size)))
        { s with heap := (s.heap.push { cls := .type "tuple_iterator", data := .fields #[.ref l, .int 0 0] }).push { cls := .type "enumerate", data := .fields #[.none, .bool false, .ref s.heap.objs.size, rawInt 0, .none, .none] } }) :=
  .of_wp fun prog w A R s h => by
    obtain ⟨hp, g, d, tk, os⟩ := s; obtain ⟨hl, h⟩ := h
    have hsub := sub_enumerate
    have hL : Heap.IsTuple (Shared.heap ⟨hp, g, d, tk, os⟩) l items := ⟨_, hl, rfl, n, rfl⟩
    wp_walk using wpAny_loadPart' hl
    refine wpAny_stack_any fun st => wpAny_pure ?_
    split
    · rename_i c _ _ _ _ _
      cases (c == Value.type "enumerate")
      · wp_walk using wpAny_loadPart' hl, wpAny_pyIter_tuple hL
        exact ⟨_, rfl, h⟩
      · wp_walk using wpAny_loadPart' hl, wpAny_pyIter_tuple hL
        exact ⟨_, rfl, h⟩
    · wp_walk using wpAny_loadPart' hl, wpAny_pyIter_tuple hL
      exact ⟨_, rfl, h⟩
section
variable {prog : Program} {w : World} {A : Around} {E : Value → Shared → Prop} {s : Shared}
theorem call_enumerate_tuple {l : Addr} {items : Array Value} {Q : Value → Shared → Prop} (hL : s.heap.IsTuple l items)
    (h : ∀ h', IsEnum h' (s.heap.objs.size + 1) s.heap.objs.size 0 .none → h'.IsTupleIter s.heap.objs.size l 0 → h'.objs.size = s.heap.objs.size + 2 →
      (∀ b o, s.heap.get? b = some o → h'.get? b = some o) → Q (.ref (s.heap.objs.size + 1)) { s with heap := h' }) :
    wpAny (model prog w) A (call (.type "enumerate") [.ref l]) Q E s := by
  obtain ⟨⟨c, dct, dt, sl⟩, hl, hc, n, hd⟩ := hL
  replace hc : c = .type "tuple" := hc
  replace hd : dt = .seq items n := hd
  subst hc hd
  refine callType_new F.called_enumerate (by decide) (F.typeCall_enumerate_1 _) (F.newCall_enumerate_1 _) (fun obj => F.args_object_init_2 obj _) F.entry_enumerate_new
    (meets_enumerate_newT l items n dct sl) ⟨hl, ?_⟩
  have hz : (s.heap.push { cls := .type "tuple_iterator", data := .fields #[.ref l, .int 0 0] }).objs.size = s.heap.objs.size + 1 := Heap.size_push ..
  show _ ∧ _
  rw [hz]
  have he : IsEnum ((s.heap.push { cls := .type "tuple_iterator", data := .fields #[.ref l, .int 0 0] }).push
      { cls := .type "enumerate", data := .fields #[.none, .bool false, .ref s.heap.objs.size, rawInt 0, .none, .none] }) (s.heap.objs.size + 1) s.heap.objs.size 0 .none := by
    have := Heap.get?_push_size (s.heap.push { cls := .type "tuple_iterator", data := .fields #[.ref l, .int 0 0] })
      (o := { cls := .type "enumerate", data := .fields #[.none, .bool false, .ref s.heap.objs.size, rawInt 0, .none, .none] }) rfl
    rw [hz] at this; exact this
  refine ⟨⟨_, he, rfl⟩, h _ he ⟨_, Heap.get?_push_of_some _ (Heap.get?_push_size _ rfl), rfl, rfl⟩ (by rw [Heap.size_push, hz]) fun b o x => Heap.get?_push_of_some _ (Heap.get?_push_of_some _ x)⟩
end
/-- the tuple at a, each item in a new pair -/
def IteT (K : PySem.W.Frag) (a : Addr) : It :=
  ⟨fun i H => ∃ (xs : List V) (x : V), SqT K H a xs ∧ xs[i]? = some x, fun i H v H' => ∃ T x, v = .ref T ∧ H T = none ∧ H' = upd H T (.tup [.int (i : Nat), x]) ∧ ∀ xs, SqT K H a xs → xs[i]? = some x, fun i H => ∃ xs : List V, SqT K H a xs ∧ xs.length ≤ i⟩
theorem turn_enumT {P : Program} {w : World} {K : PySem.W.Frag} {elts : List Expr} {kk : Nat} {tpos : Pos} (a e it : Addr) (hne0 : a ≠ it) (hea : e ≠ a) :
    Turn P w K (.Tuple elts kk tpos) (IteT K a) [e, it] e (fun i h => (∃ old, IsEnum h e it ((i : Nat) : Int) old) ∧ h.IsTupleIter it a i ∧ e ≠ it) where
  mem := by simp
  obj := fun i h st b hb => by
    obtain ⟨⟨old, he⟩, ⟨o, ho, hc, hd⟩, _⟩ := st
    have e' : b = e ∨ b = it := by simpa using hb
    rcases e' with z | z
    · rw [z]; exact ⟨_, he, fun v q => nomatch q⟩
    · rw [z]; exact ⟨o, ho, fun v q => by rw [hd] at q; cases q⟩
  keep := fun i h h' st k => by
    obtain ⟨⟨old, he⟩, ⟨o, ho, r⟩, hne⟩ := st
    exact ⟨⟨old, k e (by simp) _ he⟩, ⟨o, k it (by simp) o ho, r⟩, hne⟩
  item := by
    intro X hP hw hK hc i pins s σ H E I hf st hg
    subst hP hw hK
    obtain ⟨⟨old, he⟩, hit, hne⟩ := st
    obtain ⟨xs, x, hq, hx⟩ := hg
    obtain ⟨its, rv, p, hz⟩ := I.tuple hq
    obtain ⟨u, hu, ru⟩ := rv.get hx
    have hel : e < s.heap.objs.size := Heap.lt_size he
    have hil : it < s.heap.objs.size := by obtain ⟨_, q, _⟩ := hit; exact Heap.lt_size q
    have hlt : i < its.toArray.size := by
      have := (List.getElem?_eq_some_iff.mp hu).1
      simpa using this
    refine wpAny_pyNext_enum_itemD (D := Draws.tuple (show X.A.in1.handled = none from I.ok.hd hc) it a hne0 its.toArray) he ⟨hit, p⟩ hlt hne (by simp [hne, hea]) fun x' h' tk hx' ho st' hT hsz hk => ?_
    have hxu : x' = u := by
      have h1 : its.toArray[i]? = some u := by simpa using hu
      rw [h1] at hx'
      exact (Option.some.inj hx').symm
    subst hxu
    refine ⟨_, rfl, wpAny_letOwnedTupleGo_enum (s := { s with heap := h', toks := tk + 1 }) ho fun h'' he' sb => ?_⟩
    have hT2 : h''.get? s.heap.objs.size = some { cls := .type "tuple", data := .seq #[.int i tk, x'] } := (sb.2 _ (Nat.ne_of_gt hel)).trans hT
    have new : ObjOk X.prog X.w (upd H s.heap.objs.size (.tup [.int (i : Nat), x])) h'' s.heap.objs.size (.tup [.int (i : Nat), x]) :=
      ⟨by show 2 ≤ sizeLine; decide, [.int i tk, x'], .cons ⟨_, rfl⟩ (.cons ru .nil), ⟨_, hT2, rfl, _, rfl⟩⟩
    have I1 : Inv X pins σ (upd H s.heap.objs.size (.tup [.int (i : Nat), x])) { s with heap := h'', toks := tk + 1 } :=
      I.turnedNew (ch := [e, it]) (fun b ob hb q => (sb.2 b (fun z => hb (by simp [z]))).trans (hk b ob (fun z => hb (by simp [z])) (fun z => hb (by simp [z])) q)) hf (Nat.le_refl _) new
    refine ⟨.ref s.heap.objs.size, _, I1, rfl, ⟨_, x, rfl, I.hok.fresh (Nat.le_refl _), rfl, fun ys hy => by rw [I.tuple_inj hy hq]; exact hx⟩, ⟨⟨x', ?_⟩, ?_, hne⟩, fun b hb => ?_⟩
    · have e1 : ((i + 1 : Nat) : Int) = (i : Int) + 1 := by omega
      rw [e1]; exact he'
    · obtain ⟨⟨o, q1, q2⟩, _⟩ := st'
      exact ⟨o, (sb.2 it (Ne.symm hne)).trans q1, q2⟩
    · have hb' : b < s.heap.objs.size := by
        have e' : b = e ∨ b = it := by simpa using hb
        rcases e' with z | z
        · rw [z]; exact hel
        · rw [z]; exact hil
      rw [upd_ne (Nat.ne_of_lt hb')]
      exact (hf b hb).1
  done := by
    intro X hP hw hK hc i pins s σ H E I hf st hg
    subst hP hw hK
    obtain ⟨⟨old, he⟩, hit, hne⟩ := st
    obtain ⟨xs, hq, hx⟩ := hg
    obtain ⟨its, rv, p, hz⟩ := I.tuple hq
    obtain ⟨f0, f1, f2, f3, f4, f5⟩ := hf it (by simp)
    have hl := rv.length
    have hn : its.toArray[i]? = none := by simp; omega
    have D : Draws X.prog X.w X.A.in1 it [it, a] i (fun _ _ => True) (fun j h => h.IsTupleIter it a j ∧ h.IsTuple a its.toArray ∧ j = i) :=
      { live := fun _ _ st => let ⟨o, ho, _⟩ := st.1; ⟨o, ho⟩
        frame := fun _ _ _ st hk => ⟨(let ⟨o, ho, r⟩ := st.1; ⟨o, hk it (by simp) o ho, r⟩), (let ⟨o, ho, r⟩ := st.2.1; ⟨o, hk a (by simp) o ho, r⟩), st.2.2⟩
        item := fun j s Q E hj st _ => absurd st.2.2 (Nat.ne_of_lt hj)
        done := fun s Q E st hE => wpAny_nextOf_tuple_end (show X.A.in1.handled = none from I.ok.hd hc) st.1 st.2.1 hn hE }
    exact wpAny_pyNext_enum_endD D he ⟨hit, p, rfl⟩ fun h' eb => ⟨rfl, I.turned (t' := s.toks) (fun b o hb q => eb b o hb q) f0 f1 f3 f4 f5⟩
  self := fun A i s Q E st h => let ⟨⟨_, he⟩, _⟩ := st; wpAny_pyIter_enum he h
def iEnumT (K : PySem.W.Frag) (ta : TA) : TI := fun σ H R => ta σ H fun vs H1 => ∃ a xs, vs = [.ref a] ∧ ((SqL K H1 a xs ∧ R (Ite K a) H1) ∨ (SqT K H1 a xs ∧ R (IteT K a) H1))
theorem pi_enumT {X : Cx} {e : Expr} {ta : TA} {p pos tpos : Pos} {elts : List Expr} {kk : Nat} (hg : Gl X "enumerate") (hm : X.mg "enumerate" = none) (ha : PA X [e] ta) (hs : starEach [e] X.env = [(false, eval e X.env)] := by rfl) :
    PI X (.Tuple elts kk tpos) (.Call (.Name "enumerate" p) [e] [] pos) (iEnumT X.K ta) := by
  refine ⟨fun pins s σ H R I h => ?_⟩
  refine Call_ (ld_blt I hg hm boot_enumerate (PyProof.Rows.callWith_type1 (thn (ha.run pos pins s σ H _ I h) fun us s1 ⟨vs, H1, I1, r1, q1⟩ => ?_) hs rfl))
  obtain ⟨a, xs, ex, hq⟩ := q1
  subst ex
  cases r1 with
  | cons r rr =>
    cases rr
    cases r
    rcases hq with ⟨hq, q⟩ | ⟨hq, q⟩
    · obtain ⟨its, rv, p', hz⟩ := I1.list hq
      refine call_enumerate_list p'.isList fun h' he hit hsz hk => wpAny_pyIter_enum he ?_
      have I2 : Inv X pins σ H1 { s1 with heap := h' } := I1.kept (t' := s1.toks) hk
      refine ⟨s1.heap.objs.size + 1, [s1.heap.objs.size + 1, s1.heap.objs.size], _, _, H1, rfl, I2, turn_enum a (s1.heap.objs.size + 1) s1.heap.objs.size, ⟨⟨.none, he⟩, hit, Nat.succ_ne_self _⟩, fun b hb => ?_, q⟩
      have e' : b = s1.heap.objs.size + 1 ∨ b = s1.heap.objs.size := by simpa using hb
      have hle : s1.heap.objs.size ≤ b := by
        rcases e' with z | z
        · rw [z]; exact Nat.le_add_right _ _
        · rw [z]; exact Nat.le_refl _
      exact I1.fpOk hle (I1.hok.fresh hle)
    · obtain ⟨its, rv, p', hz⟩ := I1.tuple hq
      have hlt : a < s1.heap.objs.size := by obtain ⟨o, ho, _⟩ := p'; exact Heap.lt_size ho
      refine call_enumerate_tuple p' fun h' he hit hsz hk => wpAny_pyIter_enum he ?_
      have I2 : Inv X pins σ H1 { s1 with heap := h' } := I1.kept (t' := s1.toks) hk
      refine ⟨s1.heap.objs.size + 1, [s1.heap.objs.size + 1, s1.heap.objs.size], _, _, H1, rfl, I2, turn_enumT a (s1.heap.objs.size + 1) s1.heap.objs.size (Nat.ne_of_lt hlt) (Nat.ne_of_gt (Nat.lt_succ_of_lt hlt)), ⟨⟨.none, he⟩, hit, Nat.succ_ne_self _⟩, fun b hb => ?_, q⟩
      have e' : b = s1.heap.objs.size + 1 ∨ b = s1.heap.objs.size := by simpa using hb
      have hle : s1.heap.objs.size ≤ b := by
        rcases e' with z | z
        · rw [z]; exact Nat.le_add_right _ _
        · rw [z]; exact Nat.le_refl _
      exact I1.fpOk hle (I1.hok.fresh hle)
end GEn
end

section
set_option Elab.async false
set_option linter.all false
set_option maxRecDepth 100000
set_option maxHeartbeats 4000000
/-! GE2: enumerate as a walk over data. By an AI agent. -/
namespace G
open PySem PySem.Spec PyProof.Rows L2
variable [Cold]
section
variable {K : PySem.W.Frag} {N : Nm} {ρ : Pl} {S : Store} {H : Hp} {a : Addr} {ds : List D} {vs : List V}
theorem enumD_at : ∀ (xs : List D) (n i : Nat) (d : D), (enumD n xs)[i]? = some d → ∃ x, xs[i]? = some x ∧ d = .tup [.int ((n + i : Nat) : Int), x]
  | [], n, i, d, h => by simp [enumD] at h
  | x :: xs, n, 0, d, h => by
    have : D.tup [.int n, x] = d := by simpa [enumD] using h
    exact ⟨x, rfl, this.symm⟩
  | x :: xs, n, i + 1, d, h => by
    obtain ⟨y, h1, h2⟩ := enumD_at xs (n + 1) i d (by simpa [enumD] using h)
    exact ⟨y, by simpa using h1, by rw [h2]; congr 3; omega⟩
theorem enumD_len : ∀ (xs : List D) (n : Nat), (enumD n xs).length = xs.length
  | [], _ => rfl
  | x :: xs, n => by simp [enumD, enumD_len xs]
theorem pair_rep {H' : Hp} {S' : Store} {ρ' : Pl} {T : Addr} {i : Nat} {x : V} {d : D} (r' : Rel K N ρ' S' H') (hT : H' T = none) (hr : Rep K ρ' H' d x) :
    (∀ a o, H' a = some o → upd H' T (.tup [.int (i : Nat), x]) a = some o) ∧ Rep K ρ' (upd H' T (.tup [.int (i : Nat), x])) (.tup [.int (i : Int), d]) (.ref T) := by
  have hp : RepL K ρ' H' [.int (i : Int), d] [.int (i : Nat), x] := ⟨_, _, rfl, rfl, x, [], rfl, hr, rfl⟩
  obtain ⟨a1, a2, a3⟩ := tup_new r' hp hT
  exact ⟨fun a o e => by rw [upd_ne (ne_of_none e hT)]; exact e, a3⟩
theorem Walks.enumL (r : Rel K N ρ S H) (n : a ∉ ρ.v ∧ a ∉ ρ.h) (e : H a = some (.lst vs)) (q : RepL K ρ H ds vs) : Walks K N (Ite K a) (enumD 0 ds) ρ H := by
  have at_ : ∀ {ρ' : Pl} {H' : Hp}, Stp ρ H ρ' H' → SqL K H' a vs := fun st => SqL.of (st.kp _ _ e n.1 n.2).1
  refine ⟨fun i d ρ' S' H' hd st r' => ?_, fun i ρ' S' H' hd st r' => ?_⟩
  · obtain ⟨x, hx, rfl⟩ := enumD_at ds 0 i d hd
    obtain ⟨v, hv, hr⟩ := (RepL.at (i := i) (RepL.kw r st _ _ q)).1 x hx
    refine ⟨⟨vs, v, at_ st, hv⟩, fun y H2 hy => ?_⟩
    obtain ⟨T, z, rfl, hT, rfl, hz⟩ := hy
    have := hz vs (at_ st)
    rw [hv] at this; cases this
    rw [show ((0 + i : Nat) : Int) = (i : Int) by omega]
    exact pair_rep r' hT hr
  · have h1 := List.getElem?_eq_none_iff.mp hd
    rw [enumD_len] at h1
    exact ⟨vs, at_ st, by rw [RepL.length q]; exact h1⟩
theorem Walks.enumT (r : Rel K N ρ S H) (e : SqT K H a vs) (q : RepL K ρ H ds vs) : Walks K N (GEn.IteT K a) (enumD 0 ds) ρ H := by
  refine ⟨fun i d ρ' S' H' hd st r' => ?_, fun i ρ' S' H' hd st r' => ?_⟩
  · obtain ⟨x, hx, rfl⟩ := enumD_at ds 0 i d hd
    obtain ⟨v, hv, hr⟩ := (RepL.at (i := i) (RepL.kw r st _ _ q)).1 x hx
    refine ⟨⟨vs, v, r.kwT st e, hv⟩, fun y H2 hy => ?_⟩
    obtain ⟨T, z, rfl, hT, rfl, hz⟩ := hy
    have := hz vs (r.kwT st e)
    rw [hv] at this; cases this
    rw [show ((0 + i : Nat) : Int) = (i : Int) by omega]
    exact pair_rep r' hT hr
  · have h1 := List.getElem?_eq_none_iff.mp hd
    rw [enumD_len] at h1
    exact ⟨vs, r.kwT st e, by rw [RepL.length q]; exact h1⟩
end
section
variable {N : Nm} {X : Cx} {W : WX} {e : Expr} {me : EM} {pos p tpos : Pos} {elts : List Expr} {kk : Nat}
theorem gi_enum (h : GE N X W e me) (hm : X.mg "enumerate" = none) (hg : Gl X "enumerate" := by rfl) (hs : starEach [e] X.env = [(false, eval e X.env)] := by rfl) : GI N X W (.Tuple elts kk tpos) (.Call (.Name "enumerate" p) [e] [] pos) (iEnum me) :=
  PI.imp (GEn.pi_enumT hg hm (ga_cons h ga_nil hs) hs) fun σ H R ⟨env, S, ρ, fr, h⟩ => ⟨env, S, ρ, fr, by
    unfold iEnum iSeq at h
    unfold aCons
    cases hma : me env S with
    | ok d S1 =>
      rw [hma] at h
      intro ρ1 vs H1 st r1 p1
      obtain ⟨v, r, rfl, hv, hr⟩ := p1
      have hr' : r = [] := hr
      subst hr'
      cases d with
      | lst ds =>
        have h2 : PostI X.K N W ρ σ H (.ok (enumD 0 ds) S1) R := h
        obtain ⟨a, ws, rfl, n, e, q⟩ := hv
        exact ⟨a, ws, rfl, .inl ⟨SqL.of e, (PostI.step st h2).ok r1 (Walks.enumL r1 n e q)⟩⟩
      | tup ds =>
        have h2 : PostI X.K N W ρ σ H (.ok (enumD 0 ds) S1) R := h
        obtain ⟨a, ws, rfl, e, q⟩ := hv
        exact ⟨a, ws, rfl, .inr ⟨e.1, (PostI.step st h2).ok r1 (Walks.enumT r1 e.1 q)⟩⟩
      | _ => exact h.elim
    | exc c as S1 => rw [hma] at h; exact h
    | stuck => rw [hma] at h; exact h⟩
end
end G
end

section
set_option Elab.async false
set_option linter.all false
set_option maxRecDepth 100000
set_option maxHeartbeats 4000000
/-! GE3: zip of two lists, two tuples. By an AI agent. -/
namespace G
open PySem PySem.Spec PyProof.Rows L2
variable [Cold]
section
variable {K : PySem.W.Frag} {N : Nm} {ρ : Pl} {S : Store} {H : Hp} {a b : Addr} {ds es : List D} {vs ws : List V}
theorem zipD_at : ∀ (xs ys : List D) (i : Nat) (d : D), (zipD xs ys)[i]? = some d → ∃ x y, xs[i]? = some x ∧ ys[i]? = some y ∧ d = .tup [x, y]
  | [], ys, i, d, h => by simp [zipD] at h
  | x :: xs, [], i, d, h => by simp [zipD] at h
  | x :: xs, y :: ys, 0, d, h => by
    have : D.tup [x, y] = d := by simpa [zipD] using h
    exact ⟨x, y, rfl, rfl, this.symm⟩
  | x :: xs, y :: ys, i + 1, d, h => by
    obtain ⟨u, v, h1, h2, h3⟩ := zipD_at xs ys i d (by simpa [zipD] using h)
    exact ⟨u, v, by simpa using h1, by simpa using h2, h3⟩
theorem zipD_none : ∀ (xs ys : List D) (i : Nat), (zipD xs ys)[i]? = none → xs.length ≤ i ∨ ys.length ≤ i
  | [], ys, i, _ => .inl (Nat.zero_le _)
  | x :: xs, [], i, _ => .inr (Nat.zero_le _)
  | x :: xs, y :: ys, 0, h => by simp [zipD] at h
  | x :: xs, y :: ys, i + 1, h => by
    rcases zipD_none xs ys i (by simpa [zipD] using h) with q | q
    · exact .inl (by simp; omega)
    · exact .inr (by simp; omega)
theorem pair_rep2 {H' : Hp} {S' : Store} {ρ' : Pl} {T : Addr} {x y : V} {d e : D} (r' : Rel K N ρ' S' H') (hT : H' T = none) (hr : Rep K ρ' H' d x) (hs : Rep K ρ' H' e y) :
    (∀ a o, H' a = some o → upd H' T (.tup [x, y]) a = some o) ∧ Rep K ρ' (upd H' T (.tup [x, y])) (.tup [d, e]) (.ref T) := by
  have hp : RepL K ρ' H' [d, e] [x, y] := ⟨_, _, rfl, hr, y, [], rfl, hs, rfl⟩
  obtain ⟨a1, a2, a3⟩ := tup_new r' hp hT
  exact ⟨fun a o e => by rw [upd_ne (ne_of_none e hT)]; exact e, a3⟩
theorem Walks.zipL (r : Rel K N ρ S H) (n : a ∉ ρ.v ∧ a ∉ ρ.h) (e : H a = some (.lst vs)) (q : RepL K ρ H ds vs) (n2 : b ∉ ρ.v ∧ b ∉ ρ.h) (e2 : H b = some (.lst ws)) (q2 : RepL K ρ H es ws) : Walks K N (Itz K a b) (zipD ds es) ρ H := by
  have at_ : ∀ {ρ' : Pl} {H' : Hp}, Stp ρ H ρ' H' → SqL K H' a vs := fun st => SqL.of (st.kp _ _ e n.1 n.2).1
  have at2 : ∀ {ρ' : Pl} {H' : Hp}, Stp ρ H ρ' H' → SqL K H' b ws := fun st => SqL.of (st.kp _ _ e2 n2.1 n2.2).1
  refine ⟨fun i d ρ' S' H' hd st r' => ?_, fun i ρ' S' H' hd st r' => ?_⟩
  · obtain ⟨x, y, hx, hy, rfl⟩ := zipD_at ds es i d hd
    obtain ⟨v, hv, hr⟩ := (RepL.at (i := i) (RepL.kw r st _ _ q)).1 x hx
    obtain ⟨w, hw, hs⟩ := (RepL.at (i := i) (RepL.kw r st _ _ q2)).1 y hy
    refine ⟨⟨vs, ws, v, w, at_ st, at2 st, hv, hw⟩, fun y H2 hy => ?_⟩
    obtain ⟨T, z, z2, rfl, hT, rfl, hz, hz2⟩ := hy
    have t1 := hz vs (at_ st)
    have t2 := hz2 ws (at2 st)
    rw [hv] at t1; cases t1
    rw [hw] at t2; cases t2
    exact pair_rep2 r' hT hr hs
  · exact ⟨vs, ws, at_ st, at2 st, by rw [RepL.length q, RepL.length q2]; exact zipD_none ds es i hd⟩
theorem Walks.zipT (r : Rel K N ρ S H) (e : SqT K H a vs) (q : RepL K ρ H ds vs) (e2 : SqT K H b ws) (q2 : RepL K ρ H es ws) : Walks K N (RZ.ItzT K a b) (zipD ds es) ρ H := by
  refine ⟨fun i d ρ' S' H' hd st r' => ?_, fun i ρ' S' H' hd st r' => ?_⟩
  · obtain ⟨x, y, hx, hy, rfl⟩ := zipD_at ds es i d hd
    obtain ⟨v, hv, hr⟩ := (RepL.at (i := i) (RepL.kw r st _ _ q)).1 x hx
    obtain ⟨w, hw, hs⟩ := (RepL.at (i := i) (RepL.kw r st _ _ q2)).1 y hy
    refine ⟨⟨vs, ws, v, w, r.kwT st e, r.kwT st e2, hv, hw⟩, fun y H2 hy => ?_⟩
    obtain ⟨T, z, z2, rfl, hT, rfl, hz, hz2⟩ := hy
    have t1 := hz vs (r.kwT st e)
    have t2 := hz2 ws (r.kwT st e2)
    rw [hv] at t1; cases t1
    rw [hw] at t2; cases t2
    exact pair_rep2 r' hT hr hs
  · exact ⟨vs, ws, r.kwT st e, r.kwT st e2, by rw [RepL.length q, RepL.length q2]; exact zipD_none ds es i hd⟩
end
section
variable {N : Nm} {X : Cx} {W : WX} {e e2 : Expr} {me me2 : EM} {pos p tpos : Pos} {elts : List Expr} {kk : Nat}
/-- zip of two lists | two tuples -/
def iZipG (a b : EM) : IM := fun env S => (a env S).bnd fun x S1 => (b env S1).bnd fun y S2 => match x, y with
  | .lst xs, .lst ys => .ok (zipD xs ys) S2
  | .tup xs, .tup ys => .ok (zipD xs ys) S2
  | _, _ => .stuck
theorem gi_zip (h : GE N X W e me) (h2 : GE N X W e2 me2) (hm : X.mg "zip" = none) (hg : Gl X "zip" := by rfl) (hs : starEach [e, e2] X.env = (false, eval e X.env) :: starEach [e2] X.env := by rfl) (hs2 : starEach [e2] X.env = (false, eval e2 X.env) :: starEach [] X.env := by rfl)
    (hpl : (backTo pos (starEach [e2] X.env)).any (·.1) = false := by rfl) : GI N X W (.Tuple elts kk tpos) (.Call (.Name "zip" p) [e, e2] [] pos) (iZipG me me2) :=
  PI.imp (RZ.pi_zipA hg hm (pa_cons h (pa_cons h2 pa_nil hs2) hs) hs hpl) fun σ H R ⟨env, S, ρ, fr, h⟩ => ⟨env, S, ρ, fr, PostI.E h fun x S1 ρ1 u H1 st1 r1 p1 h1 => ⟨env, S1, ρ1, fr.step st1 r1, PostI.E h1 fun y S2 ρ2 v H2 st2 r2 p2 h2 => by
    have p1' := Rep.keep r1 st2 _ _ p1
    cases x with
    | lst xs =>
      cases y with
      | lst ys =>
        obtain ⟨a, vs, rfl, n1, e1, q1⟩ := p1'
        obtain ⟨b, ws, rfl, n2, e2, q2⟩ := p2
        exact ⟨a, b, vs, ws, rfl, .inl ⟨SqL.of e1, SqL.of e2, PostI.ok (ds := zipD xs ys) h2 r2 (Walks.zipL r2 n1 e1 q1 n2 e2 q2)⟩⟩
      | _ => exact h2.elim
    | tup xs =>
      cases y with
      | tup ys =>
        obtain ⟨a, vs, rfl, e1, q1⟩ := p1'
        obtain ⟨b, ws, rfl, e2, q2⟩ := p2
        exact ⟨a, b, vs, ws, rfl, .inr ⟨e1.1, e2.1, PostI.ok (ds := zipD xs ys) h2 r2 (Walks.zipT r2 e1.1 q1 e2.1 q2)⟩⟩
      | _ => exact h2.elim
    | _ => exact h2.elim⟩⟩
end
end G
end

section
set_option Elab.async false
set_option linter.all false
set_option maxRecDepth 100000
set_option maxHeartbeats 4000000
/-! GR1: raise of own exceptions without arguments. By an AI agent. -/
namespace G
open PySem PySem.Spec PyProof.Rows L2
variable [Cold]
section
variable {N : Nm} {X : Cx} {W : WX} {C : Addr} {bmB : List Value} {B newId initId : String}
/-- X() -/
theorem pmk_own0 {x : Str} {p pos : Pos} (F : ExcBaseFacts B newId initId bmB) (q : PySem.W.excIn X.K C bmB newId = true) (gC : X.mg x = some (.ref C)) (kC : PySem.W.keepIn X.K (.ref C) = true) (r : Raises X (.ref C)) (hg : Gl X x)
    (hdb : (x == ("__debug__" : Str)) = false := by decide) : PMk X (.Call (.Name x p) [] [] pos) (fun _ H Q => Q (.ref C) none H) := by
  intro pins s σ H Q I h
  refine wpAny_Call_Name_kw (ld_glob I hg gC ?_ hdb)
  refine PySem.W.callWith_K0 I.kIn kC ?_
  obtain ⟨bm, N, nm, qn, bs, hdct, sn, sub, ab, col, dd, k0, k1, k2, k3, k5, mN, hC, hN, hni, T⟩ := exc_obj I.kIn q
  refine wpAny_call_exc_subT F T hC hN hni (fun h' e hm => ?_) (by show 0 ≤ sizeLine; exact Nat.zero_le _)
  exact mk_of I hm r h (I.hok.gone hm.new)
theorem gs_raise0 {x : Str} {p pos pos' : Pos} {c : Nat} (hc : X.calm = true) (tk : Takes X W) (F : ExcBaseFacts B newId initId bmB) (q : PySem.W.excIn X.K (N.xad c) bmB newId = true) (gC : X.mg x = some (.ref (N.xad c))) (kC : PySem.W.keepIn X.K (.ref (N.xad c)) = true) (r : Raises X (.ref (N.xad c))) (hg : Gl X x := by rfl)
    (hdb : (x == ("__debug__" : Str)) = false := by decide) : GS N X W (.Raise (some (.Call (.Name x p) [] [] pos)) none pos') (sRaise c aNil) :=
  PS.imp (ps_raise hc tk (pmk_own0 F q gC kC r hg hdb)) fun E σ H ⟨env, S, ρ, fr, h⟩ => h ρ σ none H (Step.refl _ _) fr (.inl ⟨rfl, rfl⟩)
end
end G
end

section
set_option Elab.async false
set_option linter.all false
/-! GX: code that is never reached. By an AI agent. -/
namespace G
open PySem PySem.Spec PyProof.Rows L2
variable [Cold]
section
variable {N : Nm} {X : Cx} {W : WX}
def sStuck : SM := fun _ _ => .stuck
def eStuck : EM := fun _ _ => .stuck
def tStuck : TM := fun _ _ => .stuck
theorem gs_stuck {st : Stmt} : GS N X W st sStuck := ⟨fun _ _ _ _ _ _ ⟨_, _, _, _, h⟩ => h.elim⟩
theorem gss_stuck {st : List Stmt} : GSs N X W st sStuck := ⟨fun _ _ _ _ _ _ ⟨_, _, _, _, h⟩ => h.elim⟩
theorem ge_stuck {e : Expr} : GE N X W e eStuck := ⟨fun _ _ _ _ _ _ ⟨_, _, _, _, h⟩ => h.elim⟩
theorem gt_stuck {e : Expr} : GT N X W e tStuck := ⟨fun _ _ _ _ _ _ ⟨_, _, _, _, h⟩ => h.elim⟩
end
end G
end

section
set_option Elab.async false
set_option linter.all false
set_option maxRecDepth 100000
/-! GY: name += e, ints. By an AI agent. -/
namespace G
open PySem PySem.Spec PyProof.Rows L2
variable [Cold]
section
variable {N : Nm} {X : Cx} {W : WX} {e : Expr} {me : EM} {pos pos' : Pos}
def sAugI (i : Nat) (a : EM) : SM := fun env S => match env[i]? with
  | some (some (.int x)) => (a env S).st env fun d S1 => match d with
    | .int y => .nx (env.set i (some (.int (x + y)))) S1
    | _ => .stuck
  | _ => .stuck
theorem gs_augI {i : Nat} {x : Str} (hN : X.N.Nodup) (he : GE N X W e me) (hi : X.N[i]? = some x := by rfl) (hx : Loc X.env.scope x := by first | exact .inl rfl | exact .inr rfl) (hf : X.fn x = true ∨ X.env.scope.names.lookup x = some .local := by first | exact .inl rfl | exact .inr rfl) :
    GS N X W (.AugAssign (.Name x pos') .Add e pos) (sAugI i me) :=
  PS.imp (ps_aug hN hi hx he ip_add hf) fun E σ H ⟨env, S, ρ, fr, h⟩ => by
    unfold sAugI at h
    cases hg : env[i]? with
    | none => rw [hg] at h; exact h.elim
    | some o =>
      cases o with
      | none => rw [hg] at h; exact h.elim
      | some d =>
        cases d with
        | int k =>
          rw [hg] at h
          obtain ⟨v, hv, hr⟩ := fr.get i _ hg
          refine ⟨v, hv, env, S, ρ, fr, PostO.E fr h fun d S1 ρ1 u H1 st r1 p1 h1 => ?_⟩
          cases d with
          | int y => exact ⟨k, y, hr, p1, h1 ρ1 _ H1 (Step.refl _ _) ((fr.step st r1).set (d := .int (k + y)) (v := .int (k + y)) rfl)⟩
          | _ => exact h1.elim
        | _ => rw [hg] at h; exact h.elim
end
end G
end

section
set_option Elab.async false
set_option linter.all false
set_option maxRecDepth 100000
set_option maxHeartbeats 4000000
/-! GA1: is True, truth of lists, thawed lists, pop. By an AI agent. -/
namespace G
open PySem PySem.Spec PyProof.Rows L2
variable [Cold]
/-! ### is True, is False -/
def bIs (_ : Store) : D → D → Option D
  | .bl a, .bl b => some (.bl (decide (a = b)))
  | _, _ => none
def bIsNot (_ : Store) : D → D → Option D
  | .bl a, .bl b => some (.bl (!decide (a = b)))
  | _, _ => none
section
variable {N : Nm} {X : Cx} {W : WX} {a b : Expr} {ma mb : EM} {pos apos p : Pos}
theorem g_is : OpG N X (fun x y H Q => ∃ a b, x = .bl a ∧ y = .bl b ∧ Q (.bl (decide (a = b))) H) bIs := by
  intro S ρ H x y d u v Q R rx ry e q
  unfold bIs at e
  split at e
  · rename_i a b
    cases e
    exact ⟨a, b, rx, ry, q ρ _ H (Step.refl _ _) R rfl⟩
  · cases e
theorem g_isNot : OpG N X (fun x y H Q => ∃ a b, x = .bl a ∧ y = .bl b ∧ Q (.bl (!decide (a = b))) H) bIsNot := by
  intro S ρ H x y d u v Q R rx ry e q
  unfold bIsNot at e
  split at e
  · rename_i a b
    cases e
    exact ⟨a, b, rx, ry, q ρ _ H (Step.refl _ _) R rfl⟩
  · cases e
/-! ### truth -/
def truD (S : Store) (d : D) : Option Bool := match rd S d with
  | .non => some false
  | .bl b => some b
  | .int i => some (i != 0)
  | .lst xs => some (!xs.isEmpty)
  | .tup xs => some (!xs.isEmpty)
  | .scr xs => some (!xs.isEmpty)
  | _ => none
def tTr (a : EM) : TM := fun env S => (a env S).bnd fun x S1 => ofO (truD S1 x) S1
theorem RepL.empty {K : PySem.W.Frag} {ρ : Pl} {H : Hp} {ds : List D} {vs : List V} (h : RepL K ρ H ds vs) : vs.isEmpty = ds.isEmpty := by
  have := RepL.length h
  cases vs <;> cases ds <;> simp_all
theorem tru_rep {K : PySem.W.Frag} {ρ : Pl} {S : Store} {H : Hp} {d : D} {u : V} {b : Bool} (R : Rel K N ρ S H) (rx : Rep K ρ H d u) (e : truD S d = some b) : TruV K u H b := by
  unfold truD at e
  split at e
  · rename_i ex; rw [rd_non ex] at rx; cases e; rw [show u = .non from rx]; rfl
  · rename_i ex; rw [rd_bl ex] at rx; cases e; rw [show u = .bl _ from rx]; rfl
  · rename_i ex; rw [rd_int ex] at rx; cases e; rw [show u = .int _ from rx]; rfl
  · rename_i ex
    cases e
    obtain ⟨a, vs, rfl, h1, h2⟩ := rd_lst R rx ex
    exact .inl ⟨vs, SqL.of h1, by rw [h2.empty]⟩
  · rename_i ex
    rw [rd_tup ex] at rx; cases e
    obtain ⟨p, vs, rfl, t, r⟩ := rx
    exact .inr (.inl ⟨vs, t.1, by rw [r.empty]⟩)
  · rename_i ex
    rw [rd_scr ex] at rx; cases e
    obtain ⟨a, rfl, h1⟩ := rx
    exact .inl ⟨_, h1.sql, by cases ‹List Int› <;> rfl⟩
  · cases e
theorem gt_tr (h : GE N X W a ma) (he : ∀ whole, isTrue a X.env whole = (do let v ← whole; standAt a.pos; holding [v] (truthy v)) := by intro _; rfl) : GT N X W a (tTr ma) :=
  PT.imp (pt_truth h he) fun σ H Q ⟨env, S, ρ, fr, h⟩ => ⟨env, S, ρ, fr, h.bE fun x S1 ρ1 u H1 st1 r1 p1 h1 => by
    cases e : truD S1 x with
    | none => rw [e] at h1; exact h1.elim
    | some b => rw [e] at h1; exact ⟨b, tru_rep r1 p1 e, h1.ok r1⟩⟩
/-! ### a list just made as an object of the store -/
def fListR (S : Store) (d : D) : Option (List D) := itemsOf S d
def eListT (a : EM) : EM := fun env S => (a env S).bnd fun x S1 => match itemsOf S1 x with
  | some xs => .ok (.ref S1.length) (S1 ++ [.lst xs])
  | none => .stuck
theorem g_listT {e : Expr} {me : EM} (hc : X.calm = true) (ha : GE N X W e me) (hm : X.mg "list" = none) (hg : Gl X "list" := by rfl)
    (he : starEach [e] X.env = (false, eval e X.env) :: starEach [] X.env := by rfl) (hpl : (backTo pos (starEach [] X.env)).any (·.1) = false := by rfl) : GE N X W (.Call (.Name "list" p) [e] [] pos) (eListT me) :=
  PE.imp (pe_callTy (cr_listG hc) hg hm (by rfl) (pa_cons ha pa_nil he) (by decide) (by decide) he hpl) fun σ H Q ⟨env, S, ρ, fr, h⟩ => ⟨env, S, ρ, fr, h.bE fun x S1 ρ1 u H1 st1 r1 p1 h1 => by
    cases ex : itemsOf S1 x with
    | none => rw [ex] at h1; exact h1.elim
    | some xs =>
      rw [ex] at h1
      obtain ⟨a, rfl, h⟩ := src_of (P := fun us => ∀ p, H1 p = none → Q (.ref p) (upd H1 p (.lst us))) r1 p1 ex fun us hr p hp => by
        obtain ⟨a1, a2, a3⟩ := lst_push r1 hr hp
        exact h1 _ _ _ a1 a2 a3
      rcases h with ⟨us, h1, h2⟩ | ⟨kvs, h1, h2⟩ | ⟨kvs, h1, h2⟩
      · exact .inl ⟨a, us, rfl, h1, h2⟩
      · exact .inr (.inl ⟨a, kvs, rfl, h1, h2⟩)
      · exact .inr (.inr ⟨a, kvs, rfl, h1, fun p bs hp hb => h2 bs hb p hp⟩)⟩
/-- + and * of lists, the result an object of the store -/
def eBinT (f : Store → D → D → Option D) (a b : EM) : EM := fun env S => (a env S).bnd fun x S1 => (b env S1).bnd fun y S2 => match f S2 x y with
  | some (.lst xs) => .ok (.ref S2.length) (S2 ++ [.lst xs])
  | _ => .stuck
def OpT (N : Nm) (X : Cx) (r : R2) (f : Store → D → D → Option D) : Prop := ∀ (S : Store) (ρ : Pl) (H : Hp) (x y : D) (xs : List D) (u v : V) (Q : VK), Rel X.K N ρ S H → Rep X.K ρ H x u → Rep X.K ρ H y v → f S x y = some (.lst xs) →
  (∀ (vs : List V) (p : Addr), RepL X.K ρ H xs vs → H p = none → Q (.ref p) (upd H p (.lst vs))) → r u v H Q
theorem g_binT {op : Operator} {r : R2} {f : Store → D → D → Option D} (ho : OpR X (binaryOp op) r) (hg : OpT N X r f) (ha : GE N X W a ma) (hb : GE N X W b mb) : GE N X W (.BinOp a op b pos) (eBinT f ma mb) :=
  PE.imp (pe_op ho ha hb) fun σ H Q ⟨env, S, ρ, fr, h⟩ => ⟨env, S, ρ, fr, h.bE fun x S1 ρ1 u H1 st1 r1 p1 h1 => ⟨env, S1, ρ1, fr.step st1 r1, h1.bE fun y S2 ρ2 v H2 st2 r2 p2 h2 => by
    have p1' := Rep.keep r1 st2 _ _ p1
    cases e : f S2 x y with
    | none => rw [e] at h2; exact h2.elim
    | some d =>
      rw [e] at h2
      cases d with
      | lst xs =>
        refine hg S2 ρ2 H2 x y xs u v Q r2 p1' p2 e fun vs p hr hp => ?_
        obtain ⟨a1, a2, a3⟩ := lst_push r2 hr hp
        exact h2 _ _ _ a1 a2 a3
      | _ => exact h2.elim⟩⟩
theorem g_addT : OpT N X (rAdd X.K) bAdd := by
  intro S ρ H x y zs u v Q R rx ry e q
  unfold bAdd at e
  split at e
  · cases e
  · split at e <;> cases e
  · split at e <;> cases e
  · rename_i xs ys ex ey
    split at e
    · rename_i hz
      cases e
      obtain ⟨a, us, ea, ha, ra⟩ := rd_lst R rx ex
      obtain ⟨b, vs, eb, hb, rb⟩ := rd_lst R ry ey
      refine .inr (.inr (.inr ⟨a, b, us, vs, ea, eb, ha, hb, ?_, fun p hp => q _ _ (ra.app rb) hp⟩))
      rw [RepL.length ra, RepL.length rb]; exact ble_line hz
    · cases e
  · cases e
theorem g_mulT : OpT N X (rMulG X.K) bMul := by
  intro S ρ H x y zs u v Q R rx ry e q
  unfold bMul at e
  split at e
  · split at e <;> cases e
  · rename_i xs n ex
    split at e
    · rename_i hz
      cases e
      obtain ⟨a, us, ea, ha, ra⟩ := rd_lst R rx ex
      rw [Bool.and_eq_true] at hz
      have h1 := of_decide_eq_true hz.1
      have h2 := Nat.le_of_ble_eq_true hz.2
      refine .inr (.inl ⟨a, n, us, ea, ry, ha, by omega, by omega, ?_, fun p hp => q _ _ (ra.reps n.toNat) hp⟩)
      rw [RepL.length ra]
      exact Nat.le_trans (Nat.mul_le_mul h2 (show n.toNat ≤ 1000 by omega)) (by decide)
    · cases e
  · split at e <;> cases e
  · cases e
/-! ### pop -/
def ePopT (a : EM) : EM := fun env S => (a env S).bnd fun x S1 => match isL S1 x with
  | true => match x with
    | .ref n => match S1[n]? with
      | some (.lst xs) => match xs[xs.length - 1]? with
        | some y => .ok y (S1.set n (.lst xs.dropLast))
        | none => .stuck
      | _ => .stuck
    | _ => .stuck
  | false => .stuck
theorem RepL.dropLast {K : PySem.W.Frag} {ρ : Pl} {H : Hp} : ∀ {ds : List D} {vs : List V}, RepL K ρ H ds vs → RepL K ρ H ds.dropLast vs.dropLast
  | [], vs, h => by rw [show vs = [] from h]; exact rfl
  | [d], vs, h => by
    obtain ⟨v, r, rfl, h1, h2⟩ := h
    rw [show r = [] from h2]
    exact rfl
  | d :: e :: ds, vs, h => by
    obtain ⟨v, r, rfl, h1, h2⟩ := h
    have ih := RepL.dropLast h2
    obtain ⟨w, r2, rfl, h3, h4⟩ := h2
    exact ⟨v, _, rfl, h1, ih⟩
theorem RepL.eraseIdx {K : PySem.W.Frag} {ρ : Pl} {H : Hp} : ∀ (k : Nat) {ds : List D} {vs : List V}, RepL K ρ H ds vs → RepL K ρ H (ds.eraseIdx k) (vs.eraseIdx k)
  | _, [], vs, h => by rw [show vs = [] from h]; exact rfl
  | 0, d :: ds, vs, h => by
    obtain ⟨v, r, rfl, h1, h2⟩ := h
    exact h2
  | k + 1, d :: ds, vs, h => by
    obtain ⟨v, r, rfl, h1, h2⟩ := h
    exact ⟨v, _, rfl, h1, RepL.eraseIdx k h2⟩
theorem g_popT (ha : GE N X W a ma) (hbase : attributeBase a (PySem.Str.ofString "pop") X.env (eval a X.env) = eval a X.env := by rfl) (hline : (apos.endLine == pos.line) = true := by rfl) :
    GE N X W (.Call (.Attribute a (PySem.Str.ofString "pop") apos) [] [] pos) (ePopT ma) :=
  PE.imp (pe_bm0 PySem.F.plainAttrs_list PySem.F.slot_list_pop PySem.F.type_list_pop mt_pop ha hbase hline) fun σ H Q ⟨env, S, ρ, fr, h⟩ => ⟨env, S, ρ, fr, h.bE fun x S1 ρ1 u H1 st1 r1 p1 h1 => by
    cases hL : isL S1 x with
    | false => rw [hL] at h1; exact h1.elim
    | true =>
      rw [hL] at h1
      refine ⟨isL_ty r1 p1 hL, ?_⟩
      cases x with
      | ref n =>
        dsimp only at h1
        cases hn : S1[n]? with
        | none => rw [hn] at h1; exact h1.elim
        | some so =>
          rw [hn] at h1
          cases so with
          | lst xs =>
            dsimp only at h1
            obtain ⟨a, vs, rfl, ea, h2, h3⟩ := lst_at r1 p1 hn
            cases hy : xs[xs.length - 1]? with
            | none => rw [hy] at h1; exact h1.elim
            | some y =>
              rw [hy] at h1
              obtain ⟨w, hw, rw'⟩ := (RepL.at (i := xs.length - 1) h3).1 y hy
              have st : Step ρ1 H1 ρ1 (upd H1 a (.lst vs.dropLast)) := Step.write (List.mem_of_getElem? ea)
              have R2 := r1.write ea (so := .lst xs.dropLast) (fun _ _ z => by rw [h2] at z; cases z) ⟨_, upd_same, RepL.keep r1 st _ _ h3.dropLast⟩
              exact ⟨a, vs, w, rfl, rfl, h2, by rw [RepL.length h3]; exact hw, h1 ρ1 w _ st R2 (Rep.keep r1 st _ _ rw')⟩
          | _ => exact h1.elim
      | _ => exact h1.elim⟩
def ePopAtT (a b : EM) : EM := fun env S => (a env S).bnd fun x S1 => match isL S1 x with
  | true => (b env S1).bnd fun i S2 => match x, i with
    | .ref n, .int j => match S2[n]? with
      | some (.lst xs) => match ixN xs.length j with
        | some k => match xs[k]? with
          | some y => if Nat.ble xs.length 10000000 then .ok y (S2.set n (.lst (xs.eraseIdx k))) else .stuck
          | none => .stuck
        | none => .stuck
      | _ => .stuck
    | _, _ => .stuck
  | false => .stuck
theorem ixN_seq {i : Int} {n k : Nat} (hn : n ≤ sizeLine) (h : ixN n i = some k) : seqIndex? i n = some k ∧ -(2 ^ 63) ≤ i ∧ i < 2 ^ 63 := by
  have hs : sizeLine = 16777216 := sizeLine_eq
  unfold ixN at h
  unfold seqIndex?
  by_cases h0 : 0 ≤ i
  · rw [if_pos h0] at h
    by_cases h1 : i < (n : Int)
    · rw [if_pos h1] at h
      cases h
      have e : (if i < 0 then i + (n : Int) else i) = i := if_neg (by omega)
      refine ⟨?_, by omega, by omega⟩
      simp only [e]
      rw [if_pos (by simp; omega)]
    · rw [if_neg h1] at h; cases h
  · rw [if_neg h0] at h
    by_cases h1 : -(n : Int) ≤ i
    · rw [if_pos h1] at h
      cases h
      have e : (if i < 0 then i + (n : Int) else i) = i + n := if_pos (by omega)
      refine ⟨?_, by omega, by omega⟩
      simp only [e]
      rw [if_pos (by simp; omega)]
    · rw [if_neg h1] at h; cases h
theorem g_popAtT (ha : GE N X W a ma) (hb : GE N X W b mb) (hbase : attributeBase a (PySem.Str.ofString "pop") X.env (eval a X.env) = eval a X.env := by rfl)
    (hfew : ((backTo pos (starEach [b] X.env)).all (fun x => !x.1) && (backToKw pos (keywordEach [] X.env)).all (fun x => x.1.isSome)
      && decide (([b] : List Expr).length + ([] : List Keyword).length + (if ([] : List Keyword).isEmpty then 0 else 1) < 30)) = true := by rfl)
    (hline : (apos.endLine == pos.line) = true := by rfl) (hs : starEach [b] X.env = (false, eval b X.env) :: starEach [] X.env := by rfl) (hplain : (backTo pos (starEach [] X.env)).any (·.1) = false := by rfl) :
    GE N X W (.Call (.Attribute a (PySem.Str.ofString "pop") apos) [b] [] pos) (ePopAtT ma mb) :=
  PE.imp (pe_bm PySem.F.plainAttrs_list PySem.F.slot_list_pop PySem.F.type_list_pop mt_popAt ha (pa_cons hb pa_nil hs) hbase hfew hline hs hplain) fun σ H Q ⟨env, S, ρ, fr, h⟩ => ⟨env, S, ρ, fr, h.bE fun x S1 ρ1 u H1 st1 r1 p1 h1 => by
    cases hL : isL S1 x with
    | false => rw [hL] at h1; exact h1.elim
    | true =>
      rw [hL] at h1
      refine ⟨isL_ty r1 p1 hL, env, S1, ρ1, fr.step st1 r1, PostE.bE h1 fun y S2 ρ2 w H2 st2 r2 p2 h2 => ?_⟩
      have p1' := Rep.keep r1 st2 _ _ p1
      cases x with
      | ref n =>
        cases y with
        | int j =>
          dsimp only at h2
          cases hn : S2[n]? with
          | none => rw [hn] at h2; exact h2.elim
          | some so =>
            rw [hn] at h2
            cases so with
            | lst xs =>
              dsimp only at h2
              cases hk : ixN xs.length j with
              | none => rw [hk] at h2; exact h2.elim
              | some k =>
                rw [hk] at h2
                dsimp only at h2
                cases hy : xs[k]? with
                | none => rw [hy] at h2; exact h2.elim
                | some y =>
                  rw [hy] at h2
                  dsimp only at h2
                  split at h2
                  · rename_i hz
                    obtain ⟨a, vs, rfl, ea, h3, h4⟩ := lst_at r2 p1' hn
                    obtain ⟨w', hw, rw'⟩ := (RepL.at (i := k) h4).1 y hy
                    obtain ⟨k1, k2, k3⟩ := ixN_seq (ble_line hz) hk
                    have st : Step ρ2 H2 ρ2 (upd H2 a (.lst (vs.eraseIdx k))) := Step.write (List.mem_of_getElem? ea)
                    have R2 := r2.write ea (so := .lst (xs.eraseIdx k)) (fun _ _ z => by rw [h3] at z; cases z) ⟨_, upd_same, RepL.keep r2 st _ _ (h4.eraseIdx k)⟩
                    obtain rfl : w = .int j := p2
                    exact ⟨a, vs, j, k, w', rfl, rfl, h3, k2, k3, by rw [RepL.length h4]; exact k1, hw, h2 ρ2 w' _ st R2 (Rep.keep r2 st _ _ rw')⟩
                  · exact h2.elim
            | _ => exact h2.elim
        | _ => exact h2.elim
      | _ => exact h2.elim⟩
/-! ### list(range(..)) -/
def rgL (x y : D) : Option (List D) := match x, y with
  | .int i, .int j => if decide (-1000000 ≤ i ∧ i ≤ 1000000 ∧ -1000000 ≤ j ∧ j ≤ 1000000) then some (rangeD i (j - i).toNat) else none
  | _, _ => none
def eRgT1 (a : EM) : EM := fun env S => (a env S).bnd fun x S1 => match rgL (.int 0) x with
  | some xs => .ok (.ref S1.length) (S1 ++ [.lst xs])
  | none => .stuck
def eRgT2 (a b : EM) : EM := fun env S => (a env S).bnd fun x S1 => (b env S1).bnd fun y S2 => match rgL x y with
  | some xs => .ok (.ref S2.length) (S2 ++ [.lst xs])
  | none => .stuck
def eRgZ1 (a : EM) : EM := fun env S => (a env S).bnd fun x S1 => match rgL (.int 0) x with
  | some xs => .ok (.lst xs) S1
  | none => .stuck
def eRgZ2 (a b : EM) : EM := fun env S => (a env S).bnd fun x S1 => (b env S1).bnd fun y S2 => match rgL x y with
  | some xs => .ok (.lst xs) S2
  | none => .stuck
theorem rng_rep {K : PySem.W.Frag} {ρ : Pl} {H : Hp} {i : Int} : ∀ l : List Nat, RepL K ρ H (l.map fun (k : Nat) => D.int (i + (k : Int))) (l.map fun (k : Nat) => V.int (i + (k : Nat)))
  | [] => rfl
  | k :: r => ⟨_, _, rfl, rfl, rng_rep r⟩
theorem rgL_rep {K : PySem.W.Frag} {ρ : Pl} {H : Hp} {x y : D} {u v : V} {xs : List D} (e : rgL x y = some xs) (rx : Rep K ρ H x u) (ry : Rep K ρ H y v) : ∃ i j, u = .int i ∧ v = .int j ∧ RgOk i j ∧ RepL K ρ H xs (rgV i j) := by
  unfold rgL at e
  split at e
  · rename_i i j
    split at e
    · rename_i hz
      cases e
      have hz := of_decide_eq_true hz
      exact ⟨i, j, rx, ry, ⟨by omega, by omega, by omega, by omega, by omega⟩, rng_rep _⟩
    · cases e
  · cases e
theorem g_rgT1 (hc : X.calm = true) (ha : GE N X W a ma) (hl : X.mg "list" = none) (hr : X.mg "range" = none) {p2 pos2 : Pos} (gl : Gl X "list" := by rfl) (gr : Gl X "range" := by rfl) (h1 : starEach [a] X.env = (false, eval a X.env) :: starEach [] X.env := by rfl)
    (h2 : starEach [.Call (.Name "range" p2) [a] [] pos2] X.env = (false, eval (.Call (.Name "range" p2) [a] [] pos2) X.env) :: starEach [] X.env := by rfl) : GE N X W (.Call (.Name "list" p) [.Call (.Name "range" p2) [a] [] pos2] [] pos) (eRgT1 ma) :=
  PE.imp (pe_listRg hc gl hl (prg_1 gr hr ha h1) h2) fun σ H Q ⟨env, S, ρ, fr, h⟩ => ⟨env, S, ρ, fr, h.bE fun x S1 ρ1 u H1 st1 r1 p1 h1 => by
    cases e : rgL (.int 0) x with
    | none => rw [e] at h1; exact h1.elim
    | some xs =>
      rw [e] at h1
      obtain ⟨i, j, ei, ej, ok, rr⟩ := rgL_rep (K := X.K) (ρ := ρ1) (H := H1) (u := .int 0) e rfl p1
      cases ei
      exact ⟨j, ej, ok, fun q hq => by
        obtain ⟨a1, a2, a3⟩ := lst_push r1 rr hq
        exact h1 _ _ _ a1 a2 a3⟩⟩
theorem g_rgT2 (hc : X.calm = true) (ha : GE N X W a ma) (hb : GE N X W b mb) (hl : X.mg "list" = none) (hr : X.mg "range" = none) {p2 pos2 : Pos} (gl : Gl X "list" := by rfl) (gr : Gl X "range" := by rfl) (h1 : starEach [a, b] X.env = (false, eval a X.env) :: starEach [b] X.env := by rfl) (h3 : starEach [b] X.env = (false, eval b X.env) :: starEach [] X.env := by rfl) (h4 : (backTo pos2 (starEach [b] X.env)).any (·.1) = false := by rfl)
    (h2 : starEach [.Call (.Name "range" p2) [a, b] [] pos2] X.env = (false, eval (.Call (.Name "range" p2) [a, b] [] pos2) X.env) :: starEach [] X.env := by rfl) : GE N X W (.Call (.Name "list" p) [.Call (.Name "range" p2) [a, b] [] pos2] [] pos) (eRgT2 ma mb) :=
  PE.imp (pe_listRg hc gl hl (prg_2 gr hr ha hb h1 h3 h4) h2) fun σ H Q ⟨env, S, ρ, fr, h⟩ => ⟨env, S, ρ, fr, h.bE fun x S1 ρ1 u H1 st1 r1 p1 h1 => ⟨env, S1, ρ1, fr.step st1 r1, h1.bE fun y S2 ρ2 v H2 st2 r2 p2 h2 => by
    have p1' := Rep.keep r1 st2 _ _ p1
    cases e : rgL x y with
    | none => rw [e] at h2; exact h2.elim
    | some xs =>
      rw [e] at h2
      obtain ⟨i, j, ei, ej, ok, rr⟩ := rgL_rep e p1' p2
      exact ⟨i, j, ei, ej, ok, fun q hq => by
        obtain ⟨a1, a2, a3⟩ := lst_push r2 rr hq
        exact h2 _ _ _ a1 a2 a3⟩⟩⟩
theorem g_rgZ2 (hc : X.calm = true) (ha : GE N X W a ma) (hb : GE N X W b mb) (hl : X.mg "list" = none) (hr : X.mg "range" = none) {p2 pos2 : Pos} (gl : Gl X "list" := by rfl) (gr : Gl X "range" := by rfl) (h1 : starEach [a, b] X.env = (false, eval a X.env) :: starEach [b] X.env := by rfl) (h3 : starEach [b] X.env = (false, eval b X.env) :: starEach [] X.env := by rfl) (h4 : (backTo pos2 (starEach [b] X.env)).any (·.1) = false := by rfl)
    (h2 : starEach [.Call (.Name "range" p2) [a, b] [] pos2] X.env = (false, eval (.Call (.Name "range" p2) [a, b] [] pos2) X.env) :: starEach [] X.env := by rfl) : GE N X W (.Call (.Name "list" p) [.Call (.Name "range" p2) [a, b] [] pos2] [] pos) (eRgZ2 ma mb) :=
  PE.imp (pe_listRg hc gl hl (prg_2 gr hr ha hb h1 h3 h4) h2) fun σ H Q ⟨env, S, ρ, fr, h⟩ => ⟨env, S, ρ, fr, h.bE fun x S1 ρ1 u H1 st1 r1 p1 h1 => ⟨env, S1, ρ1, fr.step st1 r1, h1.bE fun y S2 ρ2 v H2 st2 r2 p2 h2 => by
    have p1' := Rep.keep r1 st2 _ _ p1
    cases e : rgL x y with
    | none => rw [e] at h2; exact h2.elim
    | some xs =>
      rw [e] at h2
      obtain ⟨i, j, ei, ej, ok, rr⟩ := rgL_rep e p1' p2
      exact ⟨i, j, ei, ej, ok, fun q hq => by
        obtain ⟨a1, a2, a3⟩ := lst_new r2 rr hq
        exact h2 _ _ _ a1 a2 a3⟩⟩⟩
end
end G
end

section
set_option Elab.async false
set_option linter.all false
set_option maxRecDepth 100000
set_option maxHeartbeats 4000000
/-! GA2: walks of lists of the store, of dicts' keys; dict comprehensions. By an AI agent. -/
namespace G
open PySem PySem.Spec PyProof.Rows L2
variable [Cold]
/-! ### walks that read the store -/
abbrev Src := Nat → Store → Option (Option D)
def srcL (n : Nat) : Src := fun i S => match S[n]? with
  | some (.lst xs) => some xs[i]?
  | _ => none
def srcK (n : Nat) : Src := fun i S => match S[n]? with
  | some (.dicG kvs) => some (kvs[i]?.map (·.1))
  | _ => none
structure WalkS (K : PySem.W.Frag) (N : Nm) (J : It) (src : Src) (ρ0 : Pl) (H0 : Hp) : Prop where
  go : ∀ (i : Nat) (d : D) (ρ : Pl) (S : Store) (H : Hp), src i S = some (some d) → Stp ρ0 H0 ρ H → Rel K N ρ S H → J.go i H ∧ ∀ x H', J.yld i H x H' → (∀ a o, H a = some o → H' a = some o) ∧ Rep K ρ H' d x
  stop : ∀ (i : Nat) (ρ : Pl) (S : Store) (H : Hp), src i S = some none → Stp ρ0 H0 ρ H → Rel K N ρ S H → J.stop i H
/-- .. along steps alone -/
structure WalkT (K : PySem.W.Frag) (N : Nm) (J : It) (src : Src) (ρ0 : Pl) (H0 : Hp) : Prop where
  go : ∀ (i : Nat) (d : D) (ρ : Pl) (S : Store) (H : Hp), src i S = some (some d) → Step ρ0 H0 ρ H → Rel K N ρ S H → J.go i H ∧ ∀ x H', J.yld i H x H' → (∀ a o, H a = some o → H' a = some o) ∧ Rep K ρ H' d x
  stop : ∀ (i : Nat) (ρ : Pl) (S : Store) (H : Hp), src i S = some none → Step ρ0 H0 ρ H → Rel K N ρ S H → J.stop i H
theorem WalkS.t {K : PySem.W.Frag} {N : Nm} {J : It} {src : Src} {ρ0 : Pl} {H0 : Hp} (w : WalkS K N J src ρ0 H0) : WalkT K N J src ρ0 H0 := ⟨fun i d ρ S H h st r => w.go i d ρ S H h st.w r, fun i ρ S H h st r => w.stop i ρ S H h st.w r⟩
def goForS (src : Src) (p : Pat) (body : SM) : Nat → Nat → Env → Store → O
  | 0, _, _, _ => .stuck
  | f + 1, i, env, S => match src i S with
    | none => .stuck
    | some none => .nx env S
    | some (some d) => match bindP p d env with
      | none => .stuck
      | some e => match body e S with
        | .nx e1 S1 => goForS src p body f (i + 1) e1 S1
        | .ct e1 S1 => goForS src p body f (i + 1) e1 S1
        | .bk e1 S1 => .nx e1 S1
        | o => o
def goLcS (own : List Nat) (p : Pat) (t : TM) (elt : EM) (env : Env) (src : Src) : Nat → Nat → List D → Store → R D
  | 0, _, _, _ => .stuck
  | f + 1, i, acc, S => match src i S with
    | none => .stuck
    | some none => .ok (.lst acc) S
    | some (some d) => match bindP p d (wipeE own env) with
      | none => .stuck
      | some e => match t e S with
        | .ok false S1 => goLcS own p t elt env src f (i + 1) acc S1
        | .ok true S1 => match elt e S1 with
          | .ok y S2 => if Nat.blt acc.length 10000000 then goLcS own p t elt env src f (i + 1) (acc ++ [y]) S2 else .stuck
          | _ => .stuck
        | _ => .stuck
section
variable {N : Nm} {X : Cx} {W : WX} {tg e : Expr} {me : EM} {pos p : Pos}
theorem forS_go {K : PySem.W.Frag} {J : It} {g : TG} {tb : TS} {E : Ends} {src : Src} {pt : Pat} {ms : SM} {ρ0 : Pl} {H0 : Hp} {S0 : Store} {env0 : Env} {σ0 : L2.St} {F : Nat} (fr : Fr K N env0 S0 ρ0 σ0 H0) (hw : WalkT K N J src ρ0 H0)
    (hg : ∀ v σ H Q, tP K N pt v σ H Q → g v σ H Q) (hb : ∀ E' σ H, tS K N W ms E' σ H → tb E' σ H) (h : PostO K N W ρ0 H0 (goForS src pt ms F 0 env0 S0) E) :
    ∃ Wv : Nat → Nat → L2.St → Hp → Prop, (∃ m, Wv 0 m σ0 H0) ∧ ∀ i m σ H, Wv i m σ H →
      (J.stop i H ∧ E.nx σ H) ∨ (J.go i H ∧ ∃ Nx : L2.St → Hp → Prop, (∀ σ' H', Nx σ' H' → ∃ m', m' < m ∧ Wv (i + 1) m' σ' H') ∧ ∀ x H', J.yld i H x H' → g x σ H' fun σ2 H2 => tb { E with nx := Nx, ct := Nx, bk := E.nx } σ2 H2) := by
  refine ⟨fun i m σ H => ∃ env S ρ, Fr K N env S ρ σ H ∧ Step ρ0 H0 ρ H ∧ PostO K N W ρ H (goForS src pt ms m i env S) E, ⟨F, env0, S0, ρ0, fr, Step.refl _ _, h⟩, ?_⟩
  rintro i m σ H ⟨env, S, ρ, f, st, h⟩
  cases m with
  | zero => exact h.elim
  | succ m =>
    unfold goForS at h
    cases hs : src i S with
    | none => rw [hs] at h; exact h.elim
    | some o =>
      rw [hs] at h
      cases o with
      | none => exact .inl ⟨hw.stop i ρ S H hs st f.rel, PostO.nextE f h⟩
      | some d =>
        obtain ⟨go, yl⟩ := hw.go i d ρ S H hs st f.rel
        refine .inr ⟨go, fun σ' H' => ∃ env' S' ρ', Fr K N env' S' ρ' σ' H' ∧ Step ρ0 H0 ρ' H' ∧ PostO K N W ρ' H' (goForS src pt ms m (i + 1) env' S') E, fun σ' H' nx => ⟨m, Nat.lt_succ_self _, nx⟩, fun x H' y => ?_⟩
        obtain ⟨k1, p1⟩ := yl x H' y
        have s1 : Step ρ H ρ H' := Step.ext k1
        have r1 : Rel K N ρ S H' := f.rel.same k1
        refine hg _ _ _ _ ?_
        dsimp only at h
        cases hbp : bindP pt d env with
        | none => rw [hbp] at h; exact h.elim
        | some e1 =>
          rw [hbp] at h
          refine ⟨d, env, S, ρ, e1, f.step s1 r1, p1, hbp, fun σ2 f2 _ => hb _ _ _ ⟨e1, S, ρ, f2, ?_⟩⟩
          dsimp only at h
          cases hm : ms e1 S with
          | nx e2 S2 => rw [hm] at h; exact fun ρ2 σ3 H3 s3 f3 => ⟨e2, S2, ρ2, f3, (st.trans s1).trans s3, PostO.step (s1.trans s3) h⟩
          | ct e2 S2 => rw [hm] at h; exact fun ρ2 σ3 H3 s3 f3 => ⟨e2, S2, ρ2, f3, (st.trans s1).trans s3, PostO.step (s1.trans s3) h⟩
          | bk e2 S2 => rw [hm] at h; exact fun ρ2 σ3 H3 s3 f3 => h ρ2 σ3 H3 (s1.trans s3) f3
          | rt d2 S2 => rw [hm] at h; exact fun ρ2 v3 H3 s3 r3 p3 => h ρ2 v3 H3 (s1.trans s3) r3 p3
          | exc c as e2 S2 => rw [hm] at h; exact fun ρ2 σ3 oe H3 s3 f3 x3 => h ρ2 σ3 oe H3 (s1.trans s3) f3 x3
          | stuck => rw [hm] at h; exact h.elim
/-- the turns of a comprehension -/
theorem lcS_go {K : PySem.W.Frag} {J : It} {g : TG} {tt : TT} {te : TE} {vs : List Nat} {Q : VK} {src : Src} {pt : Pat} {tc : TM} {me : EM} {ρ1 : Pl} {H1 : Hp} {S1 : Store} {env : Env} {σ : L2.St} {F : Nat} (fr : Fr K N env S1 ρ1 σ H1) (hw : WalkS K N J src ρ1 H1)
    (hsl : ∀ i ∈ pt.slots, i ∈ vs) (hg : ∀ v σ H Q, tP K N pt v σ H Q → g v σ H Q) (ht : ∀ σ H Q, tB_ K N WF tc σ H Q → tt σ H Q) (he : ∀ σ H Q, tE K N WF me σ H Q → te σ H Q)
    (h : PostE K N W ρ1 σ H1 (goLcS vs pt tc me env src F 0 [] S1) Q) (L : Addr) (hL : H1 L = none) :
    ∃ Wv : Nat → Nat → Hp → Prop, (∃ m, Wv 0 m (upd H1 L (.lst []))) ∧ ∀ i m H, Wv i m H →
      (J.stop i H ∧ Q (.ref L) H) ∨ (J.go i H ∧ ∃ Nx : Hp → Prop, (∀ H', Nx H' → ∃ m', m' < m ∧ Wv (i + 1) m' H') ∧ ∀ x H', J.yld i H x H' → g x (wipe σ vs) H' fun σ2 H2 => wipe σ2 vs = wipe σ vs ∧ tt σ2 H2 fun b H3 =>
        if b = true then te σ2 H3 fun y H4 => ∃ acc, H4 L = some (.lst acc) ∧ acc.length < sizeLine ∧ Nx (upd H4 L (.lst (acc ++ [y]))) else Nx H3) := by
  let Inn : Nat → Nat → Hp → Prop := fun i m H => ∃ (S : Store) (v : List Addr) (accD : List D) (accV : List V), Rel K N ⟨v, L :: ρ1.h, ρ1.k⟩ S H ∧ Step ρ1 H1 ⟨v, ρ1.h, ρ1.k⟩ H ∧ L ∉ v ∧ H L = some (.lst accV) ∧ RepL K ⟨v, L :: ρ1.h, ρ1.k⟩ H accD accV ∧ PostE K N W ρ1 σ H1 (goLcS vs pt tc me env src m i accD S) Q
  refine ⟨Inn, ⟨F, S1, ρ1.v, [], [], fr.rel.hide hL (.inl ⟨_, rfl⟩), Step.fresh hL, fun z => fr.rel.not_none z hL, upd_same, rfl, h⟩, ?_⟩
  have sx : ∀ {v : List Addr} {H : Hp}, Step ρ1 H1 ⟨v, ρ1.h, ρ1.k⟩ H → L ∉ v → Stp ρ1 H1 ⟨v, L :: ρ1.h, ρ1.k⟩ H := by
    intro v H st nL
    refine ⟨st.pre, fun a o e n m => ⟨st.keep a o e n, fun z => ?_, fun z => ?_⟩⟩
    · rcases st.new a z with q | q
      · exact n q
      · rw [e] at q; cases q
    · rcases List.mem_cons.mp z with z | z
      · rw [z, hL] at e; cases e
      · exact m z
  rintro i m H ⟨S, v, accD, accV, r, st, nL, eL, ra, h⟩
  have r0 : Rel K N ⟨v, ρ1.h, ρ1.k⟩ S H := r.show
  cases m with
  | zero => exact h.elim
  | succ m =>
    unfold goLcS at h
    cases hs : src i S with
    | none => rw [hs] at h; exact h.elim
    | some o =>
      rw [hs] at h
      cases o with
      | none =>
        refine .inl ⟨hw.stop _ _ S H hs (sx st nL) r, ?_⟩
        have h' : PostE K N W ρ1 σ H1 (.ok (.lst accD) S) Q := h
        exact h' ⟨v, ρ1.h, ρ1.k⟩ (.ref L) H st r0 ⟨L, accV, rfl, ⟨nL, fun z => (fr.rel.hh L z).1.ne hL⟩, eL, RepL.kw r Stp.show _ _ ra⟩
      | some d =>
        obtain ⟨go, yl⟩ := hw.go i d _ S H hs (sx st nL) r
        refine .inr ⟨go, Inn (i + 1) m, fun H' nx => ⟨m, Nat.lt_succ_self _, nx⟩, fun x H' y => ?_⟩
        obtain ⟨k1, p1⟩ := yl x H' y
        have r1 : Rel K N ⟨v, L :: ρ1.h, ρ1.k⟩ S H' := r.same k1
        have st1 : Step ρ1 H1 ⟨v, ρ1.h, ρ1.k⟩ H' := st.trans (Step.ext k1)
        have e1 : H' L = some (.lst accV) := k1 _ _ eL
        have ra1 : RepL K ⟨v, L :: ρ1.h, ρ1.k⟩ H' accD accV := RepL.keep r (Step.ext k1) _ _ ra
        have f1 : Fr K N env S ⟨v, L :: ρ1.h, ρ1.k⟩ σ H' := ⟨r1, fr.len, fun j d' e => let ⟨u, h1, h2⟩ := fr.get j d' e; ⟨u, h1, VRep.kw fr.rel (sx st1 nL) h2⟩⟩
        refine hg _ _ _ _ ?_
        dsimp only at h
        cases hbp : bindP pt d (wipeE vs env) with
        | none => rw [hbp] at h; exact h.elim
        | some e2 =>
          rw [hbp] at h
          refine ⟨d, wipeE vs env, S, ⟨v, L :: ρ1.h, ρ1.k⟩, e2, f1.wipe vs, p1, hbp, fun σ2 f2 w2 => ⟨(w2 vs hsl).trans wipe_wipe, ht _ _ _ ⟨e2, S, _, f2, ?_⟩⟩⟩
          dsimp only at h
          cases htc : tc e2 S with
          | exc c as S3 => rw [htc] at h; exact h.elim
          | stuck => rw [htc] at h; exact h.elim
          | ok b S3 =>
            rw [htc] at h
            intro ρ3 H3 st3 r3
            obtain ⟨v3, h3, k3⟩ := ρ3
            have eh : h3 = L :: ρ1.h := st3.hid
            subst eh
            have ek : k3 = ρ1.k := st3.lk
            subst ek
            have nL3 : L ∉ v3 := (r3.hh L List.mem_cons_self).2
            have e3 : H3 L = some (.lst accV) := st3.keep _ _ e1 nL
            have ra3 := RepL.keep r1 st3 _ _ ra1
            have st13 : Step ρ1 H1 ⟨v3, ρ1.h, ρ1.k⟩ H3 := st1.trans ⟨st3.pre, rfl, rfl, st3.keep, st3.new⟩
            cases b with
            | false =>
              rw [if_neg Bool.false_ne_true]
              exact ⟨S3, v3, accD, accV, r3, st13, nL3, e3, ra3, h⟩
            | true =>
              rw [if_pos rfl]
              refine he _ _ _ ⟨e2, S3, ⟨v3, L :: ρ1.h, ρ1.k⟩, f2.step st3 r3, ?_⟩
              dsimp only at h
              cases hme : me e2 S3 with
              | exc c as S4 => rw [hme] at h; exact h.elim
              | stuck => rw [hme] at h; exact h.elim
              | ok z S4 =>
                rw [hme] at h
                intro ρ4 u H4 st4 r4 p4
                obtain ⟨v4, h5, k5⟩ := ρ4
                have eh : h5 = L :: ρ1.h := st4.hid
                subst eh
                have ek : k5 = ρ1.k := st4.lk
                subst ek
                have nL4 : L ∉ v4 := (r4.hh L List.mem_cons_self).2
                have e4 : H4 L = some (.lst accV) := st4.keep _ _ e3 nL3
                have ra4 := RepL.keep r3 st4 _ _ ra3
                have st14 : Step ρ1 H1 ⟨v4, ρ1.h, ρ1.k⟩ H4 := st13.trans ⟨st4.pre, rfl, rfl, st4.keep, st4.new⟩
                dsimp only at h
                by_cases hz : Nat.blt accD.length 10000000 = true
                · rw [if_pos hz] at h
                  have hz' : accD.length < 10000000 := Nat.le_of_ble_eq_true hz
                  have hm : L ∈ (⟨v4, L :: ρ1.h, ρ1.k⟩ : Pl).h := List.mem_cons_self
                  have ni : ∀ b q, H4 L ≠ some (.frz b (.dK q)) := fun _ _ z => by rw [e4] at z; cases z
                  refine ⟨accV, e4, by rw [RepL.length ra4]; exact Nat.lt_trans hz' (by decide), S4, v4, accD ++ [z], accV ++ [u], r4.inside hm ni (.inl ⟨_, rfl⟩), ?_, nL4, upd_same, RepL.kw r4 (Stp.inside hm) _ _ (RepL.snoc p4 ra4), h⟩
                  exact ⟨st14.pre, rfl, rfl, fun a o e n => by rw [upd_ne (ne_of_none e hL)]; exact st14.keep a o e n, st14.new⟩
                · rw [if_neg hz] at h; exact h.elim
/-! ### over a list of the store -/
theorem WalkS.lst {K : PySem.W.Frag} {ρ : Pl} {S : Store} {H : Hp} {n : Nat} {a : Addr} (ea : ρ.v[n]? = some a) : WalkS K N (Itl K a) (srcL n) ρ H := by
  refine ⟨fun i d ρ' S' H' hd st r' => ?_, fun i ρ' S' H' hd st r' => ?_⟩
  · unfold srcL at hd
    split at hd
    · rename_i xs hx
      have hd : xs[i]? = some d := Option.some.inj hd
      obtain ⟨a', h1, vs, h2, h3⟩ := r'.at_ n _ hx
      rw [st.get ea] at h1; cases h1
      obtain ⟨v, hv, hr⟩ := (RepL.at (i := i) h3).1 d hd
      exact ⟨⟨vs, v, SqL.of h2, hv⟩, fun x H2 y => by
        obtain ⟨rfl, y⟩ := y
        have := y vs (SqL.of h2)
        rw [hv] at this; cases this
        exact ⟨fun _ _ h => h, hr⟩⟩
    · cases hd
  · unfold srcL at hd
    split at hd
    · rename_i xs hx
      have hd : xs[i]? = none := Option.some.inj hd
      obtain ⟨a', h1, vs, h2, h3⟩ := r'.at_ n _ hx
      rw [st.get ea] at h1; cases h1
      exact ⟨vs, SqL.of h2, List.getElem?_eq_none_iff.mp ((RepL.at (i := i) h3).2 hd)⟩
    · cases hd
def eLcS (own : List Nat) (p : Pat) (a : EM) (t : TM) (elt : EM) : EM := fun env S => (a env S).bnd fun x S1 => match x with
  | .ref n => match S1[n]? with
    | some (.lst xs) => goLcS own p t elt env (srcL n) (xs.length + 1) 0 [] S1
    | _ => .stuck
  | _ => .stuck
def sForS (p : Pat) (a : EM) (body : SM) : SM := fun env S => (a env S).st env fun x S1 => match x with
  | .ref n => match S1[n]? with
    | some (.lst xs) => goForS (srcL n) p body (xs.length + 1) 0 env S1
    | _ => .stuck
  | _ => .stuck
variable {elt : Expr} {ifs : List Expr} {scope : Scope} {own : List (Str × Nat)} {pt : Pat} {tc : TM} {mt : EM} {body : List Stmt} {ms : SM}
theorem lcS_i {vs : List Nat} (hsl : ∀ i ∈ pt.slots, i ∈ vs) {σ : L2.St} {H : Hp} {Q : VK} (h : tE X.K N W (eLcS vs pt me tc mt) σ H Q) : tLc (iSq X.K (tE X.K N W me)) (tP X.K N pt) (tB_ X.K N WF tc) (tE X.K N WF mt) vs σ H Q := by
  obtain ⟨env, S, ρ, fr, h⟩ := h
  exact ⟨env, S, ρ, fr, by
    unfold eLcS at h
    refine PostE.bE h fun x S1 ρ1 u H1 st1 r1 p1 h1 => ?_
    cases x with
    | ref n =>
      dsimp only at h1
      cases hx : S1[n]? with
      | none => rw [hx] at h1; exact h1.elim
      | some so =>
        rw [hx] at h1
        cases so with
        | lst xs =>
          obtain ⟨a, rfl, ea⟩ := p1
          obtain ⟨a', e1, vs, e2, e3⟩ := r1.at_ n _ hx
          rw [ea] at e1; cases e1
          refine ⟨a, rfl, .inl ⟨⟨vs, SqL.of e2⟩, ?_⟩⟩
          intro L hL
          exact lcS_go (fr.step st1 r1) (WalkS.lst (S := S1) ea) hsl (fun _ _ _ _ q => q) (fun _ _ _ q => q) (fun _ _ _ q => q) h1 L hL
        | _ => exact h1.elim
    | _ => exact h1.elim⟩
theorem g_lcS (hc : X.calm = true) (hN : X.N.Nodup) (hi : GE N X W e me) (ok : BlkOk X.N X.env.scope scope own) (hsl : ∀ i ∈ pt.slots, i ∈ own.map (·.2))
    (hg : ∀ (s : Shared) (H : Hp) (C : Addr) (cl : List (Str × Addr)) (fp : List Addr), GP N (X.blk s H scope (compEnvC scope cl C X.env) fp) tg pt) (ht : ∀ (s : Shared) (H : Hp) (C : Addr) (cl : List (Str × Addr)) (fp : List Addr), PTs (X.blk s H scope (compEnvC scope cl C X.env) fp) ifs (tB_ X.K N WF tc))
    (he : ∀ (s : Shared) (H : Hp) (C : Addr) (cl : List (Str × Addr)) (fp : List Addr), GE N (X.blk s H scope (compEnvC scope cl C X.env) fp) WF elt mt) (hs : ∀ x, foldedSetIterable e X.env x = pure x := by intro _; rfl) :
    GE N X W (.ListComp elt [⟨tg, e, ifs, 0⟩] scope pos) (eLcS (own.map (·.2)) pt me tc mt) :=
  PE.imp (pe_lc (g := tP X.K N pt) (tt := tB_ X.K N WF tc) (te := tE X.K N WF mt) hc hN (pi_sq hi) ok hg ht he hs) fun σ H Q h => lcS_i hsl h
theorem gs_forS (hp : PassesOwn (model X.prog X.w) X.A X.env X.xe) (hc : X.calm = true) (hi : GE N X W e me) (hg : GP N X tg pt) (hb : GSs N X W body ms) (hs : ∀ x, foldedSetIterable e X.env x = pure x := by intro _; rfl) : GS N X W (.For tg e body [] pos) (sForS pt me ms) :=
  PS.imp (ps_for hp hc (pi_sq hi) hg hb hs) fun E σ H ⟨env, S, ρ, fr, h⟩ => ⟨env, S, ρ, fr, by
    unfold sForS at h
    refine PostO.E fr h fun x S1 ρ1 u H1 st1 r1 p1 h1 => ?_
    cases x with
    | ref n =>
      dsimp only at h1
      cases hx : S1[n]? with
      | none => rw [hx] at h1; exact h1.elim
      | some so =>
        rw [hx] at h1
        cases so with
        | lst xs =>
          obtain ⟨a, rfl, ea⟩ := p1
          obtain ⟨a', e1, vs, e2, e3⟩ := r1.at_ n _ hx
          rw [ea] at e1; cases e1
          refine ⟨a, rfl, .inl ⟨⟨vs, SqL.of e2⟩, ?_⟩⟩
          exact forS_go (fr.step st1 r1) (WalkS.lst (S := S1) ea).t (fun _ _ _ _ q => q) (fun _ _ _ q => q) h1
        | _ => exact h1.elim
    | _ => exact h1.elim⟩
/-! ### over a dict's keys, the dict locked -/
def unlk (n : Nat) (kvs : List (D × D)) (S : Store) : Option Store := match S[n]? with
  | some (.dicG _) => some (S.set n (.dicK kvs))
  | _ => none
def O.unl (n : Nat) (kvs : List (D × D)) : O → O
  | .nx e S => match unlk n kvs S with
    | some S1 => .nx e S1
    | none => .stuck
  | .rt d S => match unlk n kvs S with
    | some S1 => .rt d S1
    | none => .stuck
  | _ => .stuck
/-- for x in d: d a name, a dict of the store -/
def sForK (p : Pat) (i : Nat) (body : SM) : SM := fun env S => match env[i]? with
  | some (some (.ref n)) => match S[n]? with
    | some (.dicK kvs) => (goForS (srcK n) p body (kvs.length + 1) 0 env (S.set n (.dicG kvs))).unl n kvs
    | _ => .stuck
  | _ => .stuck
theorem WalkT.keys {K : PySem.W.Frag} {ρ : Pl} {H : Hp} {n : Nat} {a : Addr} {od : Obj} {q : List (Key × V)} (ea : ρ.v[n]? = some a) (hk : (a, od, q) ∈ ρ.k) : WalkT K N (Itk a od q) (srcK n) ρ H := by
  have at_ : ∀ {ρ' : Pl} {S' : Store} {H' : Hp} {kvs : List (D × D)}, Step ρ H ρ' H' → Rel K N ρ' S' H' → S'[n]? = some (.dicG kvs) → H' a = some (.frz od (.dK q)) ∧ RepK K kD ρ' H' kvs q := by
    intro ρ' S' H' kvs st r' hx
    obtain ⟨a', h1, o, q', m, h2, h3⟩ := r'.at_ n _ hx
    rw [st.get ea] at h1; cases h1
    have h4 := r'.lk _ (by rw [st.lk]; exact hk : (a, od, q) ∈ ρ'.k)
    rw [h2] at h4; cases h4
    exact ⟨h2, h3⟩
  have ix : ∀ {ρ' : Pl} {H' : Hp} {i : Nat} {kvs : List (D × D)} {q : List (Key × V)}, RepK K kD ρ' H' kvs q → (∀ d, (kvs[i]?.map (·.1)) = some d → ∃ k v, q[i]? = some (k, v) ∧ kD d = some k) ∧ ((kvs[i]?.map (·.1)) = none → q.length ≤ i) := by
    intro ρ' H' i kvs
    induction kvs generalizing i with
    | nil => intro q h; rw [show q = [] from h]; exact ⟨fun d e => by simp at e, fun _ => by simp⟩
    | cons kv r ih =>
      intro q h
      obtain ⟨x, d⟩ := kv
      obtain ⟨k, v, q', rfl, e1, e2, e3⟩ := h
      cases i with
      | zero => exact ⟨fun d' e => ⟨k, v, rfl, by have : x = d' := by simpa using e
                                                  exact this ▸ e1⟩, fun e => by simp at e⟩
      | succ i =>
        obtain ⟨g1, g2⟩ := ih (i := i) e3
        exact ⟨fun d' e => by
          obtain ⟨k2, v2, h1, h2⟩ := g1 d' (by simpa using e)
          exact ⟨k2, v2, by simpa using h1, h2⟩, fun e => by
          have := g2 (by simpa using e)
          simpa using this⟩
  refine ⟨fun i d ρ' S' H' hd st r' => ?_, fun i ρ' S' H' hd st r' => ?_⟩
  · unfold srcK at hd
    split at hd
    · rename_i kvs hx
      obtain ⟨h1, h2⟩ := at_ st r' hx
      obtain ⟨k, v, e1, e2⟩ := (ix (i := i) h2).1 d (Option.some.inj hd)
      refine ⟨⟨h1, (List.getElem?_eq_some_iff.mp e1).1⟩, fun x H2 y => ?_⟩
      obtain ⟨rfl, k', v', e3, rfl⟩ := y
      rw [e1] at e3; cases e3
      refine ⟨fun _ _ h => h, ?_⟩
      cases d with
      | int i => cases e2; exact rfl
      | str z => cases e2; exact rfl
      | _ => cases e2
    · cases hd
  · unfold srcK at hd
    split at hd
    · rename_i kvs hx
      obtain ⟨h1, h2⟩ := at_ st r' hx
      exact ⟨h1, (ix (i := i) h2).2 (Option.some.inj hd)⟩
    · cases hd
mutual
theorem Rep.kk {K : PySem.W.Frag} {v h : List Addr} {k k' : List (Addr × Obj × List (Key × V))} {H : Hp} : ∀ (d : D) (u : V), Rep K ⟨v, h, k⟩ H d u → Rep K ⟨v, h, k'⟩ H d u
  | .non, _, h => h
  | .bl _, _, h => h
  | .int _, _, h => h
  | .str _, _, h => h
  | .tup ds, v, x => by
    obtain ⟨p, vs, e, t, q⟩ := x
    exact ⟨p, vs, e, t, RepL.kk ds vs q⟩
  | .lst ds, v, x => by
    obtain ⟨p, vs, e, n, t, q⟩ := x
    exact ⟨p, vs, e, n, t, RepL.kk ds vs q⟩
  | .ref n, v, x => x
  | .scr xs, v, x => x
  | .dct ks ds, v, x => by
    obtain ⟨a, o, keys, vs, e, n, q, hk, hl, hr⟩ := x
    exact ⟨a, o, keys, vs, e, n, q, hk, hl, RepL.kk ds vs hr⟩
  | .err, _, h => h
theorem RepL.kk {K : PySem.W.Frag} {v h : List Addr} {k k' : List (Addr × Obj × List (Key × V))} {H : Hp} : ∀ (ds : List D) (us : List V), RepL K ⟨v, h, k⟩ H ds us → RepL K ⟨v, h, k'⟩ H ds us
  | [], _, h => h
  | d :: ds, us, x => by
    obtain ⟨u, r, e, h1, h2⟩ := x
    exact ⟨u, r, e, Rep.kk d u h1, RepL.kk ds r h2⟩
end
section
variable {K : PySem.W.Frag} {v h : List Addr} {k k' : List (Addr × Obj × List (Key × V))} {H : Hp}
theorem RepF.kk : ∀ (fs : List (Nat × D)) (q : List (Str × V)), RepF K N ⟨v, h, k⟩ H fs q → RepF K N ⟨v, h, k'⟩ H fs q
  | [], _, x => x
  | (j, d) :: fs, q, x => by
    obtain ⟨u, q', e, h1, h2⟩ := x
    exact ⟨u, q', e, Rep.kk d u h1, RepF.kk fs q' h2⟩
theorem RepK.kk {κ : Type} {kf : D → Option κ} : ∀ (fs : List (D × D)) (q : List (κ × V)), RepK K kf ⟨v, h, k⟩ H fs q → RepK K kf ⟨v, h, k'⟩ H fs q
  | [], _, x => x
  | (j, d) :: fs, q, x => by
    obtain ⟨kk, u, q', e, hk, h1, h2⟩ := x
    exact ⟨kk, u, q', e, hk, Rep.kk d u h1, RepK.kk fs q' h2⟩
theorem SRep.kk {a : Addr} {so : SO} (hk : ∀ x ∈ k, x.1 = a → x ∈ k') (x : SRep K N ⟨v, h, k⟩ H a so) : SRep K N ⟨v, h, k'⟩ H a so := by
  cases so with
  | lst ds => obtain ⟨vs, q, t⟩ := x; exact ⟨vs, q, RepL.kk _ _ t⟩
  | dicK kvs => obtain ⟨vs, q, t⟩ := x; exact ⟨vs, q, RepK.kk _ _ t⟩
  | dicT kvs => obtain ⟨vs, q, t⟩ := x; exact ⟨vs, q, RepK.kk _ _ t⟩
  | dicG kvs => obtain ⟨o, vs, m, q, t⟩ := x; exact ⟨o, vs, hk _ m rfl, q, RepK.kk _ _ t⟩
  | ins c fs => obtain ⟨d, vs, q, t⟩ := x; exact ⟨d, vs, q, RepF.kk _ _ t⟩
end
/-- the dict locked -/
theorem Rel.lock {K : PySem.W.Frag} {ρ : Pl} {S : Store} {H : Hp} {n : Nat} {a : Addr} {od : Obj} {kvs : List (D × D)} {q : List (Key × V)} (R : Rel K N ρ S H) (ea : ρ.v[n]? = some a) (hq : H a = some (.dK q)) (hr : RepK K kD ρ H kvs q) :
    Rel K N ⟨ρ.v, ρ.h, (a, od, q) :: ρ.k⟩ (S.set n (.dicG kvs)) (upd H a (.frz od (.dK q))) ∧ ∀ ds vs, RepL K ρ H ds vs → RepL K ⟨ρ.v, ρ.h, (a, od, q) :: ρ.k⟩ (upd H a (.frz od (.dK q))) ds vs := by
  have ha : a ∈ ρ.v := List.mem_of_getElem? ea
  have st : Step ρ H ρ (upd H a (.frz od (.dK q))) := Step.write ha
  have nf : ∀ x ∈ ρ.k, x.1 ≠ a := fun x hx z => by
    have := R.lk x hx
    rw [z, hq] at this; cases this
  refine ⟨⟨?_, R.nd, fun b hb => ?_, fun x hx => ?_, fun m so e => ?_, fun b o q' e => ?_⟩, fun ds vs hrl => ?_⟩
  · show ρ.v.length = (S.set n (.dicG kvs)).length
    rw [List.length_set]; exact R.len
  · obtain ⟨h1, h2⟩ := R.hh b hb
    exact ⟨by rw [upd_ne (fun z => h2 (by rw [z]; exact ha))]; exact h1, h2⟩
  · rcases List.mem_cons.mp hx with rfl | hx
    · exact upd_same
    · rw [upd_ne (nf x hx)]; exact R.lk x hx
  · by_cases hm : n = m
    · subst hm
      have hl : n < S.length := by rw [← R.len]; exact (List.getElem?_eq_some_iff.mp ea).1
      rw [List.getElem?_set_self hl] at e
      cases e
      exact ⟨a, ea, od, q, List.mem_cons_self, upd_same, RepK.kk _ _ (RepK.keep R st _ _ hr)⟩
    · rw [List.getElem?_set_ne hm] at e
      obtain ⟨b, h1, h2⟩ := R.at_ m so e
      have nb : b ≠ a := fun z => by
        subst z
        have i1 := List.getElem?_eq_some_iff.mp ea
        have i2 := List.getElem?_eq_some_iff.mp h1
        exact hm ((List.getElem_inj R.nd).mp (i1.2.trans i2.2.symm))
      exact ⟨b, h1, SRep.kk (fun x hx _ => List.mem_cons_of_mem _ hx) (h2.keep R st (upd_ne nb))⟩
  · obtain ⟨h1, h2, h3⟩ := R.cst b o q' e
    exact ⟨by rw [upd_ne (fun z => h2 (by rw [z]; exact ha))]; exact h1, h2, h3⟩
  · exact RepL.kk _ _ (RepL.keep R st _ _ hrl)
/-- .. and free again -/
theorem Rel.unlock {K : PySem.W.Frag} {ρ ρ' : Pl} {S S' : Store} {H H' : Hp} {n : Nat} {a : Addr} {od : Obj} {kvs kvs' : List (D × D)} {q : List (Key × V)} (R : Rel K N ρ S H) (ea : ρ.v[n]? = some a) (hq : H a = some (.dK q)) (hr : RepK K kD ρ H kvs q)
    (st : Step ⟨ρ.v, ρ.h, (a, od, q) :: ρ.k⟩ (upd H a (.frz od (.dK q))) ρ' H') (R' : Rel K N ρ' S' H') (hn : S'[n]? = some (.dicG kvs')) :
    H' a = some (.frz od (.dK q)) ∧ Step ρ H ⟨ρ'.v, ρ'.h, ρ.k⟩ (upd H' a (.dK q)) ∧ Rel K N ⟨ρ'.v, ρ'.h, ρ.k⟩ (S'.set n (.dicK kvs)) (upd H' a (.dK q)) ∧ ∀ d v, Rep K ρ' H' d v → Rep K ⟨ρ'.v, ρ'.h, ρ.k⟩ (upd H' a (.dK q)) d v := by
  have ha : a ∈ ρ.v := List.mem_of_getElem? ea
  have ea' : ρ'.v[n]? = some a := st.get ea
  have ha' : a ∈ ρ'.v := List.mem_of_getElem? ea'
  have nf : ∀ x ∈ ρ.k, x.1 ≠ a := fun x hx z => by
    have := R.lk x hx
    rw [z, hq] at this; cases this
  have ek : ρ'.k = (a, od, q) :: ρ.k := st.lk
  have eH : H' a = some (.frz od (.dK q)) := R'.lk (a, od, q) (by rw [ek]; exact List.mem_cons_self)
  have st2 : Step ρ H ⟨ρ'.v, ρ'.h, ρ.k⟩ (upd H' a (.dK q)) := by
    refine ⟨st.pre, st.hid, rfl, fun b o e nb => ?_, fun b hb => ?_⟩
    · have na : b ≠ a := fun z => nb (by rw [z]; exact ha)
      rw [upd_ne na]
      exact st.keep b o (by rw [upd_ne na]; exact e) nb
    · rcases st.new b hb with h | h
      · exact .inl h
      · by_cases z : b = a
        · exact .inl (by rw [z]; exact ha)
        · rw [upd_ne z] at h; exact .inr h
  have sw : Step ρ' H' ρ' (upd H' a (.dK q)) := Step.write ha'
  have tr : ∀ d v, Rep K ρ' H' d v → Rep K ⟨ρ'.v, ρ'.h, ρ.k⟩ (upd H' a (.dK q)) d v := fun d v x => Rep.kk d v (Rep.keep R' sw d v x)
  refine ⟨eH, st2, ⟨?_, R'.nd, fun b hb => ?_, fun x hx => ?_, fun m so e => ?_, fun b o q' e => ?_⟩, tr⟩
  · show ρ'.v.length = (S'.set n (.dicK kvs)).length
    rw [List.length_set]; exact R'.len
  · obtain ⟨h1, h2⟩ := R'.hh b hb
    exact ⟨by rw [upd_ne (fun z => h2 (by rw [z]; exact ha'))]; exact h1, h2⟩
  · rw [upd_ne (nf x hx)]
    exact R'.lk x (by rw [ek]; exact List.mem_cons_of_mem _ hx)
  · by_cases hm : n = m
    · subst hm
      have hl : n < S'.length := by rw [← R'.len]; exact (List.getElem?_eq_some_iff.mp ea').1
      rw [List.getElem?_set_self hl] at e
      cases e
      exact ⟨a, ea', q, upd_same, RepK.keep R st2 _ _ hr⟩
    · rw [List.getElem?_set_ne hm] at e
      obtain ⟨b, h1, h2⟩ := R'.at_ m so e
      have nb : b ≠ a := fun z => by
        subst z
        have i1 := List.getElem?_eq_some_iff.mp ea'
        have i2 := List.getElem?_eq_some_iff.mp h1
        exact hm ((List.getElem_inj R'.nd).mp (i1.2.trans i2.2.symm))
      refine ⟨b, h1, SRep.kk (fun x hx hb => ?_) (h2.keep R' sw (upd_ne nb))⟩
      rw [ek] at hx
      rcases List.mem_cons.mp hx with rfl | hx
      · exact absurd hb.symm nb
      · exact hx
  · obtain ⟨h1, h2, h3⟩ := R'.cst b o q' e
    exact ⟨by rw [upd_ne (fun z => h2 (by rw [z]; exact ha'))]; exact h1, h2, h3⟩
theorem gs_forK {x : Str} {p pos : Pos} {pt : Pat} {body : List Stmt} {ms : SM} (i : Nat) (hp : PassesOwn (model X.prog X.w) X.A X.env X.xe) (hc : X.calm = true) (hg : GP N X tg pt) (hb : GSs N X W body ms) (hN : X.N[i]? = some x := by rfl)
    (hv : Vis X.env.scope x := by first | exact Or.inl rfl | exact Or.inr (Or.inl rfl) | exact Or.inr (Or.inr rfl)) (hd : (x == ("__debug__" : Str)) = false := by decide)
    (hcd : (x == ("__classdict__" : Str)) = false := by decide) (hs : ∀ y, foldedSetIterable (.Name x p) X.env y = pure y := by intro _; rfl) : GS N X W (.For tg (.Name x p) body [] pos) (sForK pt i ms) :=
  PS.imp (ps_lock (ps_for hp hc (pi_keys (pe_var hN hv hd hcd)) hg hb hs)) fun E σ H ⟨env, S, ρ, fr, h⟩ => by
    unfold sForK at h
    cases hi : env[i]? with
    | none => rw [hi] at h; exact h.elim
    | some o =>
      cases o with
      | none => rw [hi] at h; exact h.elim
      | some d =>
        rw [hi] at h
        cases d with
        | ref n =>
          dsimp only at h
          cases hS : S[n]? with
          | none => rw [hS] at h; exact h.elim
          | some so =>
            rw [hS] at h
            cases so with
            | dicK kvs =>
              dsimp only at h
              obtain ⟨v, hv1, a, rfl, ea⟩ := fr.get i _ hi
              obtain ⟨a', h1, q, hq, hr⟩ := fr.rel.at_ n _ hS
              rw [ea] at h1; cases h1
              refine ⟨a, _, hq, trivial, fun od => ?_⟩
              obtain ⟨RL, tr⟩ := fr.rel.lock (od := od) ea hq hr
              have stl : Step ρ H ρ (upd H a (.frz od (.dK q))) := Step.write (List.mem_of_getElem? ea)
              have frL : Fr X.K N env (S.set n (.dicG kvs)) ⟨ρ.v, ρ.h, (a, od, q) :: ρ.k⟩ σ (upd H a (.frz od (.dK q))) := ⟨RL, fr.len, fun j d e => by
                obtain ⟨u, g1, g2⟩ := fr.get j d e
                refine ⟨u, g1, ?_⟩
                have g3 := VRep.keep fr.rel stl g2
                cases d <;> first | exact Rep.kk _ _ g3 | exact g3⟩
              refine ⟨.ref a, hv1, a, od, rfl, .inl ⟨q, upd_same, ?_⟩⟩
              have fin : PostO X.K N W ⟨ρ.v, ρ.h, (a, od, q) :: ρ.k⟩ (upd H a (.frz od (.dK q))) (goForS (srcK n) pt ms (kvs.length + 1) 0 env (S.set n (.dicG kvs))) ⟨fun σ' H' => H' a = some (.frz od (.dK q)) ∧ E.nx σ' (upd H' a (.dK q)), fun v H' => H' a = some (.frz od (.dK q)) ∧ E.rt v (upd H' a (.dK q)), fun σ' H' => H' a = some (.frz od (.dK q)) ∧ E.bk σ' (upd H' a (.dK q)), fun σ' H' => H' a = some (.frz od (.dK q)) ∧ E.ct σ' (upd H' a (.dK q))⟩ := by
                cases hgo : goForS (srcK n) pt ms (kvs.length + 1) 0 env (S.set n (.dicG kvs)) with
                | nx e' S' =>
                  rw [hgo] at h
                  intro ρ' σ' H' st f
                  unfold O.unl unlk at h
                  dsimp only at h
                  split at h
                  · rename_i S1 hS1
                    split at hS1
                    · rename_i kvs' hn
                      cases hS1
                      obtain ⟨u1, u2, u3, u4⟩ := fr.rel.unlock ea hq hr st f.rel hn
                      refine ⟨u1, h _ σ' _ u2 ⟨u3, f.len, fun j d e => ?_⟩⟩
                      obtain ⟨w, g1, g2⟩ := f.get j d e
                      refine ⟨w, g1, ?_⟩
                      cases d <;> first | exact u4 _ _ g2 | exact g2
                    · cases hS1
                  · exact h.elim
                | rt d S' =>
                  rw [hgo] at h
                  intro ρ' v H' st r' rp
                  unfold O.unl unlk at h
                  dsimp only at h
                  split at h
                  · rename_i S1 hS1
                    split at hS1
                    · rename_i kvs' hn
                      cases hS1
                      obtain ⟨u1, u2, u3, u4⟩ := fr.rel.unlock ea hq hr st r' hn
                      exact ⟨u1, h _ v _ u2 u3 (u4 _ _ rp)⟩
                    · cases hS1
                  · exact h.elim
                | bk e' S' => rw [hgo] at h; exact h.elim
                | ct e' S' => rw [hgo] at h; exact h.elim
                | exc c as e' S' => rw [hgo] at h; exact h.elim
                | stuck => rw [hgo] at h; exact h.elim
              exact forS_go frL (WalkT.keys ea List.mem_cons_self) (fun _ _ _ _ q => q) (fun _ _ _ q => q) fin
            | _ => exact h.elim
        | _ => exact h.elim
end
end G
end

section
set_option Elab.async false
set_option linter.all false
set_option maxRecDepth 100000
set_option maxHeartbeats 4000000
/-! GA3: dict comprehensions; try .. except C as e. By an AI agent. -/
namespace G
open PySem PySem.Spec PyProof.Rows L2
variable [Cold]
def putAtK (S : Store) (n : Nat) (y z : D) : Option Store := match S[n]? with
  | some (.dicK kvs) => if isKeyK y && Nat.blt kvs.length 10000000 then some (S.set n (.dicK (dput y z kvs))) else none
  | _ => none
def goDc (own : List Nat) (p : Pat) (t : TM) (kx vx : EM) (n : Nat) (env : Env) : List D → Store → R D
  | [], S => .ok (.ref n) S
  | d :: ds, S => match bindP p d (wipeE own env) with
    | none => .stuck
    | some e => match t e S with
      | .ok false S1 => goDc own p t kx vx n env ds S1
      | .ok true S1 => match kx e S1 with
        | .ok y S2 => match vx e S2 with
          | .ok z S3 => match putAtK S3 n y z with
            | some S4 => goDc own p t kx vx n env ds S4
            | none => .stuck
          | _ => .stuck
        | _ => .stuck
      | _ => .stuck
def eDc (own : List Nat) (p : Pat) (it : IM) (t : TM) (kx vx : EM) : EM := fun env S => (it env S).bnd fun ds S1 => goDc own p t kx vx S1.length env ds (S1 ++ [.dicK []])
section
variable {N : Nm} {X : Cx} {W : WX} {kx vx tg it : Expr} {ifs : List Expr} {scope : Scope} {own : List (Str × Nat)} {pos : Pos} {mi : IM} {pt : Pat} {tc : TM} {mk mv : EM}
theorem putAtK_ok {K : PySem.W.Frag} {ρ : Pl} {S S' : Store} {H : Hp} {n : Nat} {a : Addr} {y z : D} {u v : V} (R : Rel K N ρ S H) (ea : ρ.v[n]? = some a) (ry : Rep K ρ H y u) (rz : Rep K ρ H z v) (e : putAtK S n y z = some S') :
    ∃ kvs k, u = kV k ∧ H a = some (.dK kvs) ∧ kvs.length < sizeLine ∧ Step ρ H ρ (upd H a (.dK (putK kvs k v))) ∧ Rel K N ρ S' (upd H a (.dK (putK kvs k v))) := by
  unfold putAtK at e
  split at e
  · rename_i kvs hn
    split at e
    · rename_i hk
      cases e
      rw [Bool.and_eq_true] at hk
      obtain ⟨a', h1, qq, hq, hr⟩ := R.at_ n _ hn
      rw [ea] at h1; cases h1
      obtain ⟨k, ek, rfl⟩ := key_K hk.1 ry
      have st : Step ρ H ρ (upd H a (.dK (putK qq k v))) := Step.write (List.mem_of_getElem? ea)
      exact ⟨qq, k, rfl, hq, by rw [RepK.length hr]; exact lt_line hk.2, st, R.write ea (fun _ _ z => by rw [hq] at z; cases z) ⟨_, upd_same, RepK.keep R st _ _ (RepK.put kD_inj ek rz hr)⟩⟩
    · cases e
  · cases e
theorem dc_i {vs : List Nat} (hsl : ∀ i ∈ pt.slots, i ∈ vs) {σ : L2.St} {H : Hp} {Q : VK} (h : tE X.K N W (eDc vs pt mi tc mk mv) σ H Q) : tDc (tI X.K N W mi) (tP X.K N pt) (tB_ X.K N WF tc) (tE X.K N WF mk) (tE X.K N WF mv) vs σ H Q := by
  obtain ⟨env, S, ρ, fr, h⟩ := h
  exact ⟨env, S, ρ, fr, by
    unfold eDc at h
    cases hmi : mi env S with
    | exc c as S1 => rw [hmi] at h; exact h
    | stuck => rw [hmi] at h; exact h
    | ok ds S1 =>
      rw [hmi] at h
      intro ρ1 J H1 st1 r1 hw D hD
      have fr1 := fr.step st1 r1
      have h1 := PostE.step st1 h
      obtain ⟨p1, p2, p3⟩ := dk_push r1 hD
      have eD : (ρ1.push D).v[S1.length]? = some D := by
        obtain ⟨a, ea, eb⟩ := p3
        cases ea; exact eb
      let Inn : Nat → Hp → Prop := fun i H => ∃ S ρ, Rel X.K N ρ S H ∧ Step (ρ1.push D) (upd H1 D (.dK [])) ρ H ∧ PostE X.K N W ρ σ H (goDc vs pt tc mk mv S1.length env (ds.drop i) S) Q
      refine ⟨fun i m H => m = ds.length - i ∧ i ≤ ds.length ∧ Inn i H, ⟨_, rfl, Nat.zero_le _, _, _, p2, Step.refl _ _, PostE.step p1 h1⟩, ?_⟩
      rintro i m H2 ⟨rfl, hi, S2, ρ2, r2, st2, h2⟩
      have st12 : Step ρ1 H1 ρ2 H2 := p1.trans st2
      by_cases hlt : i < ds.length
      · obtain ⟨d, hd⟩ : ∃ d, ds[i]? = some d := ⟨ds[i], List.getElem?_eq_getElem hlt⟩
        obtain ⟨go, yl⟩ := hw.go i d ρ2 S2 H2 hd st12.w r2
        have hdrop : ds.drop i = d :: ds.drop (i + 1) := by
          rw [List.drop_eq_getElem_cons hlt]
          rw [List.getElem?_eq_getElem hlt] at hd
          cases hd
          rfl
        rw [hdrop] at h2
        refine .inr ⟨go, Inn (i + 1), fun H' nx => ⟨ds.length - (i + 1), by omega, rfl, hlt, nx⟩, fun x H' y => ?_⟩
        obtain ⟨k1, px⟩ := yl x H' y
        have sx : Step ρ2 H2 ρ2 H' := Step.ext k1
        have rx : Rel X.K N ρ2 S2 H' := r2.same k1
        have st13 : Step ρ1 H1 ρ2 H' := st12.trans sx
        have f3 : Fr X.K N env S2 ρ2 σ H' := fr1.step st13 rx
        unfold goDc at h2
        cases hbp : bindP pt d (wipeE vs env) with
        | none => rw [hbp] at h2; exact h2.elim
        | some e2 =>
          rw [hbp] at h2
          dsimp only at h2
          refine ⟨d, _, S2, ρ2, e2, f3.wipe _, px, hbp, fun σ2 f2 w2 => ⟨(w2 _ hsl).trans wipe_wipe, e2, S2, ρ2, f2, ?_⟩⟩
          cases htc : tc e2 S2 with
          | exc c as S3 => rw [htc] at h2; exact h2.elim
          | stuck => rw [htc] at h2; exact h2.elim
          | ok b S3 =>
            rw [htc] at h2
            intro ρ3 H3 st3 r3
            have stA : Step (ρ1.push D) (upd H1 D (.dK [])) ρ3 H3 := (st2.trans sx).trans st3
            cases b with
            | false =>
              rw [if_neg Bool.false_ne_true]
              exact ⟨S3, ρ3, r3, stA, PostE.step (sx.trans st3) h2⟩
            | true =>
              rw [if_pos rfl]
              dsimp only at h2
              refine ⟨e2, S3, ρ3, f2.step st3 r3, ?_⟩
              cases hmk : mk e2 S3 with
              | exc c as S4 => rw [hmk] at h2; exact h2.elim
              | stuck => rw [hmk] at h2; exact h2.elim
              | ok y S4 =>
                rw [hmk] at h2
                dsimp only at h2
                intro ρ4 u4 H4 st4 r4 p4
                refine ⟨e2, S4, ρ4, (f2.step st3 r3).step st4 r4, ?_⟩
                cases hmv : mv e2 S4 with
                | exc c as S5 => rw [hmv] at h2; exact h2.elim
                | stuck => rw [hmv] at h2; exact h2.elim
                | ok z S5 =>
                  rw [hmv] at h2
                  dsimp only at h2
                  intro ρ5 u5 H5 st5 r5 p5
                  cases hp : putAtK S5 S1.length y z with
                  | none => rw [hp] at h2; exact h2.elim
                  | some S6 =>
                    rw [hp] at h2
                    have stB : Step (ρ1.push D) (upd H1 D (.dK [])) ρ5 H5 := (stA.trans st4).trans st5
                    obtain ⟨kvs, k, e1, e3, e4, s6, r6⟩ := putAtK_ok r5 (stB.get eD) (Rep.keep r4 st5 _ _ p4) p5 hp
                    exact ⟨kvs, k, e1, e3, e4, S6, ρ5, r6, stB.trans s6, PostE.step ((((sx.trans st3).trans st4).trans st5).trans s6) h2⟩
      · have e : i = ds.length := by omega
        subst e
        rw [List.drop_length] at h2
        refine .inl ⟨hw.stop _ ρ2 S2 H2 (by simp) st12.w r2, ?_⟩
        have h' : PostE X.K N W ρ2 σ H2 (.ok (.ref S1.length) S2) Q := h2
        exact h'.ok r2 ⟨D, rfl, st2.get eD⟩⟩
theorem g_dc (hc : X.calm = true) (hN : X.N.Nodup) (hi : GI N X W tg it mi) (ok : BlkOk X.N X.env.scope scope own) (hsl : ∀ i ∈ pt.slots, i ∈ own.map (·.2))
    (hg : ∀ (s : Shared) (H : Hp) (C : Addr) (cl : List (Str × Addr)) (fp : List Addr), GP N (X.blk s H scope (compEnvC scope cl C X.env) fp) tg pt) (ht : ∀ (s : Shared) (H : Hp) (C : Addr) (cl : List (Str × Addr)) (fp : List Addr), PTs (X.blk s H scope (compEnvC scope cl C X.env) fp) ifs (tB_ X.K N WF tc))
    (hk : ∀ (s : Shared) (H : Hp) (C : Addr) (cl : List (Str × Addr)) (fp : List Addr), GE N (X.blk s H scope (compEnvC scope cl C X.env) fp) WF kx mk)
    (he : ∀ (s : Shared) (H : Hp) (C : Addr) (cl : List (Str × Addr)) (fp : List Addr), GE N (X.blk s H scope (compEnvC scope cl C X.env) fp) WF vx mv) (hs : ∀ x, foldedSetIterable it X.env x = pure x := by intro _; rfl) :
    GE N X W (.DictComp kx vx [⟨tg, it, ifs, 0⟩] scope pos) (eDc (own.map (·.2)) pt mi tc mk mv) :=
  PE.imp (pe_dc (g := tP X.K N pt) (tt := tB_ X.K N WF tc) (tk := tE X.K N WF mk) (tv := tE X.K N WF mv) hc hN hi ok hg ht hk he hs) fun σ H Q h => dc_i hsl h
end
/-! ### try .. except C as e -/
/-- the frame without a caught error -/
def clrE : Env → Env
  | [] => []
  | some .err :: r => none :: clrE r
  | o :: r => o :: clrE r
theorem clrE_get : ∀ (e : Env) (i : Nat) (d : D), (clrE e)[i]? = some (some d) → e[i]? = some (some d) ∧ d ≠ .err
  | [], i, d, h => by simp [clrE] at h
  | none :: r, 0, d, h => by simp [clrE] at h
  | none :: r, i + 1, d, h => by
    have h' : (clrE r)[i]? = some (some d) := h
    exact clrE_get r i d h'
  | some x :: r, 0, d, h => by
    cases x <;> first | (have h' : some (some _) = some (some d) := h; cases h'; exact ⟨rfl, fun z => nomatch z⟩) | (have h' : some none = some (some d) := h; cases h')
  | some x :: r, i + 1, d, h => by
    have h' : (clrE r)[i]? = some (some d) := by cases x <;> exact h
    exact clrE_get r i d h'
theorem clrE_len : ∀ e : Env, (clrE e).length = e.length
  | [] => rfl
  | none :: r => by show (clrE r).length + 1 = r.length + 1; rw [clrE_len r]
  | some x :: r => by
    have : (clrE (some x :: r)).length = (clrE r).length + 1 := by cases x <;> rfl
    rw [this, clrE_len r]; rfl
section
variable {K : PySem.W.Frag} {N : Nm} {ρ : Pl} {S : Store} {H : Hp} {x : Option Addr}
abbrev Nm.er (N : Nm) (x : Option Addr) : Nm := { N with err := x }
theorem RepF.er : ∀ (fs : List (Nat × D)) (q : List (Str × V)), RepF K N ρ H fs q → RepF K (N.er x) ρ H fs q
  | [], _, h => h
  | (k, d) :: fs, q, h => by
    obtain ⟨v, q', e, h1, h2⟩ := h
    exact ⟨v, q', e, h1, RepF.er fs q' h2⟩
theorem RepF.re : ∀ (fs : List (Nat × D)) (q : List (Str × V)), RepF K (N.er x) ρ H fs q → RepF K N ρ H fs q
  | [], _, h => h
  | (k, d) :: fs, q, h => by
    obtain ⟨v, q', e, h1, h2⟩ := h
    exact ⟨v, q', e, h1, RepF.re fs q' h2⟩
theorem SRep.er {a : Addr} {so : SO} (h : SRep K N ρ H a so) : SRep K (N.er x) ρ H a so := by
  cases so with
  | ins c fs => obtain ⟨d, q, e, h1⟩ := h; exact ⟨d, q, e, RepF.er _ _ h1⟩
  | _ => exact h
theorem SRep.re {a : Addr} {so : SO} (h : SRep K (N.er x) ρ H a so) : SRep K N ρ H a so := by
  cases so with
  | ins c fs => obtain ⟨d, q, e, h1⟩ := h; exact ⟨d, q, e, RepF.re _ _ h1⟩
  | _ => exact h
theorem Rel.er (r : Rel K N ρ S H) : Rel K (N.er x) ρ S H := ⟨r.len, r.nd, r.hh, r.lk, fun n so e => let ⟨a, h1, h2⟩ := r.at_ n so e; ⟨a, h1, h2.er⟩, r.cst⟩
theorem Rel.re (r : Rel K (N.er x) ρ S H) : Rel K N ρ S H := ⟨r.len, r.nd, r.hh, r.lk, fun n so e => let ⟨a, h1, h2⟩ := r.at_ n so e; ⟨a, h1, h2.re⟩, r.cst⟩
end
def sTryAs (i : Nat) (cov : Nat → Option Bool) (mb : SM) (ms : Nat → SM) : SM := fun env S => match mb env S with
  | .exc c as e S1 => match cov c with
    | some true => if as.isEmpty then match ms c ((clrE e).set i (some .err)) S1 with
        | .nx e2 S2 => .nx ((clrE e2).set i none) S2
        | .rt d S2 => .rt d S2
        | _ => .stuck
      else .stuck
    | some false => .exc c as e S1
    | none => .stuck
  | o => o
theorem PSs.any {X : Cx} {st : List Stmt} {ι : Type} {t : ι → TS} (h : ∀ i, PSs X st (t i)) : PSs X st (fun D σ H => ∃ i, t i D σ H) := ⟨fun pins s σ H D I ⟨i, q⟩ => (h i).run pins s σ H D I q⟩
theorem PSs.pre {X : Cx} {st : List Stmt} {p : Prop} {t : TS} (h : p → PSs X st t) : PSs X st (fun D σ H => p ∧ t D σ H) := ⟨fun pins s σ H D I ⟨q1, q⟩ => (h q1).run pins s σ H D I q⟩
section
variable {N : Nm} {X : Cx} {W : WX} {x n : Str} {C : Addr} {i : Nat} {body suite : List Stmt} {b₀ : Stmt} {np pos pos' : Pos} {mb : SM} {ms : Nat → SM} {cov : Nat → Option Bool}
theorem gs_tryAs (hs : X.stack = X.env :: X.outer) (hf : X.env.frame = some X.env.locals) (hN : X.N.Nodup) (hc : Names X x (.ref C)) (tk : Takes X W)
    (hcov : ∀ c b, cov c = some b → PySem.W.exmOne X.K (.ref (N.xad c)) (.ref C) = some b)
    (hb : ∀ (W : WX) (pn : List (Addr × Obj)) (xe : Value → Shared → Prop), Takes (X.tr pn xe) W → PassesOwn (model X.prog X.w) X.A X.env xe → GSs N (X.tr pn xe) W body mb)
    (hsu : ∀ (a : Addr) (oe : Obj) (c : Nat) (pn : List (Addr × Obj)), cov c = some true → Zc (.ref (N.xad c)) none oe → (∃ vs, oe.data = .fields vs) → GSs (N.er (some a)) (X.suite a ((a, oe) :: pn)) WF (b₀ :: suite) (ms c))
    (hi : X.N[i]? = some n := by rfl) (hln : X.env.kindOf n = some .local := by rfl) :
    GS N X W (.Try body [.ExceptHandler (some (.Name x np)) (some n) (b₀ :: suite) pos'] [] [] pos) (sTryAs i cov mb ms) :=
  PS.imp (ps_try_as (tb := fun W => tS X.K N W mb) (ts := fun a cls d => fun D σ H => ∃ c, (cov c = some true ∧ cls = .ref (N.xad c) ∧ d = none) ∧ tS X.K (N.er (some a)) WF (ms c) D σ H) hs hf hN hi hln hc tk hb
    (fun a oe cls d pn hz hd => PSs.any fun c => PSs.pre fun ⟨h1, h2, h3⟩ => by subst h2 h3; exact hsu a oe c pn h1 hz hd)) fun E σ H ⟨env, S, ρ, fr, h⟩ => ⟨env, S, ρ, fr, by
    unfold sTryAs at h
    cases hm : mb env S with
    | nx e S1 => rw [hm] at h; exact h
    | rt d S1 => rw [hm] at h; exact h
    | bk e S1 => rw [hm] at h; exact h
    | ct e S1 => rw [hm] at h; exact h
    | stuck => rw [hm] at h; exact h
    | exc c as e S1 =>
      rw [hm] at h
      dsimp only at h
      intro ρ' σ' oe H' st f xr
      cases hcv : cov c with
      | none => rw [hcv] at h; exact h.elim
      | some b =>
        rw [hcv] at h
        refine ⟨b, hcov c b hcv, fun hb => ?_, fun hb => ?_⟩
        · subst hb
          dsimp only at h
          by_cases hz : as.isEmpty = true
          · rw [if_pos hz] at h
            intro a na
            have has : as = [] := List.isEmpty_iff.mp hz
            subst has
            have hoe : oe = none := by
              rcases xr with ⟨_, e⟩ | ⟨ne, _⟩
              · exact e
              · exact absurd rfl ne
            subst hoe
            refine ⟨c, ⟨hcv, rfl, rfl⟩, (clrE e).set i (some .err), S1, ρ', ⟨f.rel.er, ?_, fun j d ej => ?_⟩, ?_⟩
            · rw [List.length_set, List.length_set, clrE_len]; exact f.len
            · by_cases hj : i = j
              · subst hj
                by_cases hl : i < (clrE e).length
                · rw [List.getElem?_set_self hl] at ej
                  cases ej
                  exact ⟨.ref a, by rw [List.getElem?_set_self (by rw [← f.len, ← clrE_len e]; exact hl)], a, rfl, rfl⟩
                · rw [List.getElem?_eq_none (by rw [List.length_set]; omega)] at ej; cases ej
              · rw [List.getElem?_set_ne hj] at ej
                obtain ⟨g1, g2⟩ := clrE_get _ _ _ ej
                obtain ⟨v, g3, g4⟩ := f.get j d g1
                exact ⟨v, by rw [List.getElem?_set_ne hj]; exact g3, VRep.of (g4.rep g2)⟩
            · have fin : ∀ {e2 : Env} {S2 : Store} {ρ2 : Pl} {σ2 : L2.St} {H2 : Hp}, Fr X.K (N.er (some a)) e2 S2 ρ2 σ2 H2 → Fr X.K N ((clrE e2).set i none) S2 ρ2 (σ2.set i none) H2 := by
                intro e2 S2 ρ2 σ2 H2 f2
                refine ⟨f2.rel.re, by rw [List.length_set, List.length_set, clrE_len]; exact f2.len, fun j d ej => ?_⟩
                by_cases hj : i = j
                · subst hj
                  by_cases hl : i < (clrE e2).length
                  · rw [List.getElem?_set_self hl] at ej; cases ej
                  · rw [List.getElem?_eq_none (by rw [List.length_set]; omega)] at ej; cases ej
                · rw [List.getElem?_set_ne hj] at ej
                  obtain ⟨g1, g2⟩ := clrE_get _ _ _ ej
                  obtain ⟨v, g3, g4⟩ := f2.get j d g1
                  exact ⟨v, by rw [List.getElem?_set_ne hj]; exact g3, VRep.of (g4.rep g2)⟩
              cases hms : ms c ((clrE e).set i (some .err)) S1 with
              | nx e2 S2 =>
                rw [hms] at h
                exact fun ρ2 σ2 H2 s2 f2 => h ρ2 _ H2 (st.trans s2) (fin f2)
              | rt d S2 =>
                rw [hms] at h
                exact fun ρ2 v H2 s2 r2 p2 => h ρ2 v H2 (st.trans s2) r2.re p2
              | bk e2 S2 => rw [hms] at h; exact h.elim
              | ct e2 S2 => rw [hms] at h; exact h.elim
              | exc c2 as2 e2 S2 => rw [hms] at h; exact h.elim
              | stuck => rw [hms] at h; exact h.elim
          · rw [if_neg hz] at h; exact h.elim
        · subst hb
          exact h ρ' σ' oe H' st f xr⟩
/-- isinstance(e, C), e the caught error -/
def eIsErr (i : Nat) (b : Bool) : EM := fun env S => match env[i]? with
  | some (some .err) => .ok (.bl b) S
  | _ => .stuck
theorem g_isErr {a D C' : Addr} {oe : Obj} {pn : List (Addr × Obj)} {W : WX} {n y : Str} {p p1 p2 pos : Pos} {i : Nat} {b : Bool} (hC : ExcC X.K D) (hz : Zc (.ref D) none oe) (hf : ∃ vs, oe.data = .fields vs) (hk : PySem.W.kitOne X.K (.ref D) (.ref C') = some b)
    (hm : X.mg y = some (.ref C')) (hmi : X.mg "isinstance" = none) (hgi : Gl (X.suite a ((a, oe) :: pn)) "isinstance" := by rfl) (hgy : Gl (X.suite a ((a, oe) :: pn)) y := by rfl) (hdy : (y == ("__debug__" : Str)) = false := by decide)
    (hN : X.N[i]? = some n := by rfl) (hv : Vis X.env.scope n := by first | exact Or.inl rfl | exact Or.inr (Or.inl rfl) | exact Or.inr (Or.inr rfl)) (hd : (n == ("__debug__" : Str)) = false := by decide) (hcd : (n == ("__classdict__" : Str)) = false := by decide)
    (h1 : starEach [.Name n p1, .Name y p2] X.env = (false, eval (.Name n p1) X.env) :: starEach [.Name y p2] X.env := by rfl) (h2 : starEach [.Name y p2] X.env = (false, eval (.Name y p2) X.env) :: starEach [] X.env := by rfl)
    (hpl : (backTo pos (starEach [.Name y p2] X.env)).any (·.1) = false := by rfl) :
    GE (N.er (some a)) (X.suite a ((a, oe) :: pn)) W (.Call (.Name "isinstance" p) [.Name n p1, .Name y p2] [] pos) (eIsErr i b) :=
  PE.imp (pe_callB (call_isE hC hz hf) hgi hmi (by rfl) (pa_cons (pe_var (X := X.suite a ((a, oe) :: pn)) hN hv hd hcd) (pa_cons (pe_glob (X := X.suite a ((a, oe) :: pn)) (v := .ref C') hgy hm rfl hdy) pa_nil h2) h1) (by decide) (by decide) h1 hpl) fun σ H Q ⟨env, S, ρ, fr, h⟩ => by
    unfold eIsErr at h
    split at h
    · rename_i he
      obtain ⟨v, g1, a', g2, rfl⟩ := fr.get i _ he
      cases g2
      exact ⟨.ref a, g1, .ref C', .ref C', b, rfl, fun u hu => hu, hk, PostE.ok h fr.rel rfl⟩
    · exact h.elim
end
end G
end

section
set_option Elab.async false
set_option linter.all false
set_option maxRecDepth 100000
set_option maxHeartbeats 4000000
/-! GA4: the rules by arity, as a printer of derivations wants them. By an AI agent. -/
namespace G
open PySem PySem.Spec PyProof.Rows L2
variable [Cold]
/-- a def of the text does what fm says, its binding, its place -/
def GFx (P : Program) (w : World) (K : PySem.W.Frag) (mg : Str → Option Value) (base : Heap) (N : Nm) (k : Nat) (f : Addr) (ps : List Str) (fm : FM) : Prop :=
  ∃ fd, GF P w K mg base N k f fd ps fm ∧ Binds K fd ps [] ∧ PySem.W.keepIn K (.ref f) = true
section
variable {N : Nm} {X : Cx} {W : WX} {k k0 : Nat} {f : Addr} {ps : List Str} {fm : FM} {x m : Str} {p pos apos : Pos} {a b c d e o : Expr} {ma mb mc md me mo : EM}
theorem Room.hu {k : Nat} {A : Around} (r : Room k A) : A.units + 100 < cLine := by have := r.un; omega
theorem Takes.wf {X : Cx} : Takes X WF := fun u s' ⟨a, B, sI, pins, σ, H, cls, d, e, I, nb, up, sky, na, os, ag, w⟩ => w.elim
/-! calls of defs -/
theorem gc0 (hm : X.mg x = some (.ref f)) (F : GFx X.prog X.w X.K X.mg X.base N k0 f [] fm) (hk : k0 ≤ k) (tk : Takes X W) (hr : Room k X.A) (hg : Gl X x := by rfl) (hdb : (x == ("__debug__" : Str)) = false := by decide) : GE N X W (.Call (.Name x p) [] [] pos) (eCall fm aNil) := by
  obtain ⟨fd, F, hbi, kp⟩ := F
  exact g_call0 (F.mono hk) tk hr hm kp hbi hg hdb
theorem gc1 (hm : X.mg x = some (.ref f)) (F : GFx X.prog X.w X.K X.mg X.base N k0 f ps fm) (hk : k0 ≤ k) (tk : Takes X W) (hr : Room k X.A) (ha : GE N X W a ma) (hl : 1 = ps.length := by rfl) (hg : Gl X x := by rfl) (hdb : (x == ("__debug__" : Str)) = false := by decide)
    (s1 : starEach [a] X.env = (false, eval a X.env) :: starEach [] X.env := by rfl) (hpl : (backTo pos (starEach [] X.env)).any (·.1) = false := by rfl) : GE N X W (.Call (.Name x p) [a] [] pos) (eCall fm (aCons ma aNil)) := by
  obtain ⟨fd, F, hbi, kp⟩ := F
  exact g_call (F.mono hk) tk hr hm kp hbi hl (ga_cons ha ga_nil s1) (an_cons (e := a) an_nil) hg hdb s1 hpl
theorem gc2 (hm : X.mg x = some (.ref f)) (F : GFx X.prog X.w X.K X.mg X.base N k0 f ps fm) (hk : k0 ≤ k) (tk : Takes X W) (hr : Room k X.A) (ha : GE N X W a ma) (hb2 : GE N X W b mb) (hl : 2 = ps.length := by rfl) (hg : Gl X x := by rfl) (hdb : (x == ("__debug__" : Str)) = false := by decide)
    (s1 : starEach [a, b] X.env = (false, eval a X.env) :: starEach [b] X.env := by rfl) (s2 : starEach [b] X.env = (false, eval b X.env) :: starEach [] X.env := by rfl) (hpl : (backTo pos (starEach [b] X.env)).any (·.1) = false := by rfl) : GE N X W (.Call (.Name x p) [a, b] [] pos) (eCall fm (aCons ma (aCons mb aNil))) := by
  obtain ⟨fd, F, hbi, kp⟩ := F
  exact g_call (F.mono hk) tk hr hm kp hbi hl (ga_cons ha (ga_cons hb2 ga_nil s2) s1) (an_cons (e := a) (an_cons (e := b) an_nil)) hg hdb s1 hpl
theorem gc3 (hm : X.mg x = some (.ref f)) (F : GFx X.prog X.w X.K X.mg X.base N k0 f ps fm) (hk : k0 ≤ k) (tk : Takes X W) (hr : Room k X.A) (ha : GE N X W a ma) (hb2 : GE N X W b mb) (hc : GE N X W c mc) (hl : 3 = ps.length := by rfl) (hg : Gl X x := by rfl) (hdb : (x == ("__debug__" : Str)) = false := by decide)
    (s1 : starEach [a, b, c] X.env = (false, eval a X.env) :: starEach [b, c] X.env := by rfl) (s2 : starEach [b, c] X.env = (false, eval b X.env) :: starEach [c] X.env := by rfl) (s3 : starEach [c] X.env = (false, eval c X.env) :: starEach [] X.env := by rfl) (hpl : (backTo pos (starEach [b, c] X.env)).any (·.1) = false := by rfl) : GE N X W (.Call (.Name x p) [a, b, c] [] pos) (eCall fm (aCons ma (aCons mb (aCons mc aNil)))) := by
  obtain ⟨fd, F, hbi, kp⟩ := F
  exact g_call (F.mono hk) tk hr hm kp hbi hl (ga_cons ha (ga_cons hb2 (ga_cons hc ga_nil s3) s2) s1) (an_cons (e := a) (an_cons (e := b) (an_cons (e := c) an_nil))) hg hdb s1 hpl
theorem gc4 (hm : X.mg x = some (.ref f)) (F : GFx X.prog X.w X.K X.mg X.base N k0 f ps fm) (hk : k0 ≤ k) (tk : Takes X W) (hr : Room k X.A) (ha : GE N X W a ma) (hb2 : GE N X W b mb) (hc : GE N X W c mc) (hd : GE N X W d md) (hl : 4 = ps.length := by rfl) (hg : Gl X x := by rfl) (hdb : (x == ("__debug__" : Str)) = false := by decide)
    (s1 : starEach [a, b, c, d] X.env = (false, eval a X.env) :: starEach [b, c, d] X.env := by rfl) (s2 : starEach [b, c, d] X.env = (false, eval b X.env) :: starEach [c, d] X.env := by rfl) (s3 : starEach [c, d] X.env = (false, eval c X.env) :: starEach [d] X.env := by rfl) (s4 : starEach [d] X.env = (false, eval d X.env) :: starEach [] X.env := by rfl) (hpl : (backTo pos (starEach [b, c, d] X.env)).any (·.1) = false := by rfl) : GE N X W (.Call (.Name x p) [a, b, c, d] [] pos) (eCall fm (aCons ma (aCons mb (aCons mc (aCons md aNil))))) := by
  obtain ⟨fd, F, hbi, kp⟩ := F
  exact g_call (F.mono hk) tk hr hm kp hbi hl (ga_cons ha (ga_cons hb2 (ga_cons hc (ga_cons hd ga_nil s4) s3) s2) s1) (an_cons (e := a) (an_cons (e := b) (an_cons (e := c) (an_cons (e := d) an_nil)))) hg hdb s1 hpl
theorem gc5 (hm : X.mg x = some (.ref f)) (F : GFx X.prog X.w X.K X.mg X.base N k0 f ps fm) (hk : k0 ≤ k) (tk : Takes X W) (hr : Room k X.A) (ha : GE N X W a ma) (hb2 : GE N X W b mb) (hc : GE N X W c mc) (hd : GE N X W d md) (he : GE N X W e me) (hl : 5 = ps.length := by rfl) (hg : Gl X x := by rfl) (hdb : (x == ("__debug__" : Str)) = false := by decide)
    (s1 : starEach [a, b, c, d, e] X.env = (false, eval a X.env) :: starEach [b, c, d, e] X.env := by rfl) (s2 : starEach [b, c, d, e] X.env = (false, eval b X.env) :: starEach [c, d, e] X.env := by rfl) (s3 : starEach [c, d, e] X.env = (false, eval c X.env) :: starEach [d, e] X.env := by rfl) (s4 : starEach [d, e] X.env = (false, eval d X.env) :: starEach [e] X.env := by rfl) (s5 : starEach [e] X.env = (false, eval e X.env) :: starEach [] X.env := by rfl) (hpl : (backTo pos (starEach [b, c, d, e] X.env)).any (·.1) = false := by rfl) : GE N X W (.Call (.Name x p) [a, b, c, d, e] [] pos) (eCall fm (aCons ma (aCons mb (aCons mc (aCons md (aCons me aNil)))))) := by
  obtain ⟨fd, F, hbi, kp⟩ := F
  exact g_call (F.mono hk) tk hr hm kp hbi hl (ga_cons ha (ga_cons hb2 (ga_cons hc (ga_cons hd (ga_cons he ga_nil s5) s4) s3) s2) s1) (an_cons (e := a) (an_cons (e := b) (an_cons (e := c) (an_cons (e := d) (an_cons (e := e) an_nil))))) hg hdb s1 hpl
/-! built-ins -/
theorem gb_len (hm : X.mg "len" = none) (ha : GE N X W a ma) (hg : Gl X "len" := by rfl) (s1 : starEach [a] X.env = (false, eval a X.env) :: starEach [] X.env := by rfl) (hpl : (backTo pos (starEach [] X.env)).any (·.1) = false := by rfl) : GE N X W (.Call (.Name "len" p) [a] [] pos) (eBuilt fLen (aCons ma aNil)) :=
  g_blt call_lenG cg_len hg hm (by rfl) (ga_cons ha ga_nil s1) (by decide) (by decide) s1 hpl
theorem gb_all (hc : X.calm = true) (hm : X.mg "all" = none) (ha : GE N X W a ma) (hg : Gl X "all" := by rfl) (s1 : starEach [a] X.env = (false, eval a X.env) :: starEach [] X.env := by rfl) (hpl : (backTo pos (starEach [] X.env)).any (·.1) = false := by rfl) : GE N X W (.Call (.Name "all" p) [a] [] pos) (eBuilt fAll (aCons ma aNil)) :=
  g_blt (cr_all hc) cg_all hg hm (by rfl) (ga_cons ha ga_nil s1) (by decide) (by decide) s1 hpl
theorem gb_any (hc : X.calm = true) (hm : X.mg "any" = none) (ha : GE N X W a ma) (hg : Gl X "any" := by rfl) (s1 : starEach [a] X.env = (false, eval a X.env) :: starEach [] X.env := by rfl) (hpl : (backTo pos (starEach [] X.env)).any (·.1) = false := by rfl) : GE N X W (.Call (.Name "any" p) [a] [] pos) (eBuilt fAny (aCons ma aNil)) :=
  g_blt (cr_any hc) cg_any hg hm (by rfl) (ga_cons ha ga_nil s1) (by decide) (by decide) s1 hpl
theorem gb_sum (hc : X.calm = true) (hm : X.mg "sum" = none) (ha : GE N X W a ma) (hg : Gl X "sum" := by rfl) (s1 : starEach [a] X.env = (false, eval a X.env) :: starEach [] X.env := by rfl) (hpl : (backTo pos (starEach [] X.env)).any (·.1) = false := by rfl) : GE N X W (.Call (.Name "sum" p) [a] [] pos) (eBuilt fSum (aCons ma aNil)) :=
  g_blt (cr_sum hc) cg_sum hg hm (by rfl) (ga_cons ha ga_nil s1) (by decide) (by decide) s1 hpl
theorem gb_abs (hm : X.mg "abs" = none) (ha : GE N X W a ma) (hg : Gl X "abs" := by rfl) (s1 : starEach [a] X.env = (false, eval a X.env) :: starEach [] X.env := by rfl) (hpl : (backTo pos (starEach [] X.env)).any (·.1) = false := by rfl) : GE N X W (.Call (.Name "abs" p) [a] [] pos) (eBuilt fAbs (aCons ma aNil)) :=
  g_blt call_abs cg_abs hg hm (by rfl) (ga_cons ha ga_nil s1) (by decide) (by decide) s1 hpl
theorem gb_int (hm : X.mg "int" = none) (ha : GE N X W a ma) (hg : Gl X "int" := by rfl) (s1 : starEach [a] X.env = (false, eval a X.env) :: starEach [] X.env := by rfl) (hpl : (backTo pos (starEach [] X.env)).any (·.1) = false := by rfl) : GE N X W (.Call (.Name "int" p) [a] [] pos) (eBuilt fInt (aCons ma aNil)) :=
  g_typ call_int1 cg_int hg hm (by rfl) (ga_cons ha ga_nil s1) (by decide) (by decide) s1 hpl
theorem gb_tuple (hm : X.mg "tuple" = none) (ha : GE N X W a ma) (hg : Gl X "tuple" := by rfl) (s1 : starEach [a] X.env = (false, eval a X.env) :: starEach [] X.env := by rfl) (hpl : (backTo pos (starEach [] X.env)).any (·.1) = false := by rfl) : GE N X W (.Call (.Name "tuple" p) [a] [] pos) (eBuilt fTuple (aCons ma aNil)) :=
  g_typ call_tuple_of cg_tuple hg hm (by rfl) (ga_cons ha ga_nil s1) (by decide) (by decide) s1 hpl
theorem gb_list (hc : X.calm = true) (hm : X.mg "list" = none) (ha : GE N X W a ma) (hg : Gl X "list" := by rfl) (s1 : starEach [a] X.env = (false, eval a X.env) :: starEach [] X.env := by rfl) (hpl : (backTo pos (starEach [] X.env)).any (·.1) = false := by rfl) : GE N X W (.Call (.Name "list" p) [a] [] pos) (eBuilt fList (aCons ma aNil)) :=
  g_typ (cr_listG hc) cg_list hg hm (by rfl) (ga_cons ha ga_nil s1) (by decide) (by decide) s1 hpl
theorem gb_sorted (hc : X.calm = true) (hr : Room k X.A) (hm : X.mg "sorted" = none) (ha : GE N X W a ma) (hg : Gl X "sorted" := by rfl) (s1 : starEach [a] X.env = (false, eval a X.env) :: starEach [] X.env := by rfl) (hpl : (backTo pos (starEach [] X.env)).any (·.1) = false := by rfl) : GE N X W (.Call (.Name "sorted" p) [a] [] pos) (eBuilt fSorted (aCons ma aNil)) :=
  g_blt (cr_sortG hc (by have := hr.un; omega)) cg_sorted hg hm (by rfl) (ga_cons ha ga_nil s1) (by decide) (by decide) s1 hpl
theorem gb_max (hc : X.calm = true) (hr : Room k X.A) (hm : X.mg "max" = none) (ha : GE N X W a ma) (hg : Gl X "max" := by rfl) (s1 : starEach [a] X.env = (false, eval a X.env) :: starEach [] X.env := by rfl) (hpl : (backTo pos (starEach [] X.env)).any (·.1) = false := by rfl) : GE N X W (.Call (.Name "max" p) [a] [] pos) (eBuilt fMax (aCons ma aNil)) :=
  g_blt (cr_maxG hc (by have := hr.un; omega)) cg_max hg hm (by rfl) (ga_cons ha ga_nil s1) (by decide) (by decide) s1 hpl
theorem gb_min (hc : X.calm = true) (hr : Room k X.A) (hm : X.mg "min" = none) (ha : GE N X W a ma) (hg : Gl X "min" := by rfl) (s1 : starEach [a] X.env = (false, eval a X.env) :: starEach [] X.env := by rfl) (hpl : (backTo pos (starEach [] X.env)).any (·.1) = false := by rfl) : GE N X W (.Call (.Name "min" p) [a] [] pos) (eBuilt fMin (aCons ma aNil)) :=
  g_blt (cr_minG hc (by have := hr.un; omega)) cg_min hg hm (by rfl) (ga_cons ha ga_nil s1) (by decide) (by decide) s1 hpl
theorem gb_max2 (hc : X.calm = true) (hr : Room k X.A) (hm : X.mg "max" = none) (ha : GE N X W a ma) (hb : GE N X W b mb) (hg : Gl X "max" := by rfl) (s1 : starEach [a, b] X.env = (false, eval a X.env) :: starEach [b] X.env := by rfl) (s2 : starEach [b] X.env = (false, eval b X.env) :: starEach [] X.env := by rfl) (hpl : (backTo pos (starEach [b] X.env)).any (·.1) = false := by rfl) : GE N X W (.Call (.Name "max" p) [a, b] [] pos) (eBuilt fMax (aCons ma (aCons mb aNil))) :=
  g_blt (cr_maxG hc (by have := hr.un; omega)) cg_max hg hm (by rfl) (ga_cons ha (ga_cons hb ga_nil s2) s1) (by decide) (by decide) s1 hpl
theorem gb_min2 (hc : X.calm = true) (hr : Room k X.A) (hm : X.mg "min" = none) (ha : GE N X W a ma) (hb : GE N X W b mb) (hg : Gl X "min" := by rfl) (s1 : starEach [a, b] X.env = (false, eval a X.env) :: starEach [b] X.env := by rfl) (s2 : starEach [b] X.env = (false, eval b X.env) :: starEach [] X.env := by rfl) (hpl : (backTo pos (starEach [b] X.env)).any (·.1) = false := by rfl) : GE N X W (.Call (.Name "min" p) [a, b] [] pos) (eBuilt fMin (aCons ma (aCons mb aNil))) :=
  g_blt (cr_minG hc (by have := hr.un; omega)) cg_min hg hm (by rfl) (ga_cons ha (ga_cons hb ga_nil s2) s1) (by decide) (by decide) s1 hpl
theorem gb_is_int (hm : X.mg "isinstance" = none) (hmt : X.mg "int" = none) (ha : GE N X W a ma) {p2 : Pos} (hg : Gl X "isinstance" := by rfl) (hgt : Gl X "int" := by rfl) (h1 : starEach [a, .Name "int" p2] X.env = (false, eval a X.env) :: starEach [.Name "int" p2] X.env := by rfl) (h2 : starEach [.Name "int" p2] X.env = (false, eval (.Name "int" p2) X.env) :: starEach [] X.env := by rfl)
    (hpl : (backTo pos (starEach [.Name "int" p2] X.env)).any (·.1) = false := by rfl) : GE N X W (.Call (.Name "isinstance" p) [a, .Name "int" p2] [] pos) (eUn (uIs .int) ma) :=
  g_isi .int ha (pe_bltn (v := .ty "int") hgt hmt (by rfl) rfl (by decide) (by decide)) hg hm (by rfl) (by decide) (by decide) h1 h2 hpl
theorem gb_is_bool (hm : X.mg "isinstance" = none) (hmt : X.mg "bool" = none) (ha : GE N X W a ma) {p2 : Pos} (hg : Gl X "isinstance" := by rfl) (hgt : Gl X "bool" := by rfl) (h1 : starEach [a, .Name "bool" p2] X.env = (false, eval a X.env) :: starEach [.Name "bool" p2] X.env := by rfl) (h2 : starEach [.Name "bool" p2] X.env = (false, eval (.Name "bool" p2) X.env) :: starEach [] X.env := by rfl)
    (hpl : (backTo pos (starEach [.Name "bool" p2] X.env)).any (·.1) = false := by rfl) : GE N X W (.Call (.Name "isinstance" p) [a, .Name "bool" p2] [] pos) (eUn (uIs .bool) ma) :=
  g_isi .bool ha (pe_bltn (v := .ty "bool") hgt hmt (by rfl) rfl (by decide) (by decide)) hg hm (by rfl) (by decide) (by decide) h1 h2 hpl
theorem gb_is_str (hm : X.mg "isinstance" = none) (hmt : X.mg "str" = none) (ha : GE N X W a ma) {p2 : Pos} (hg : Gl X "isinstance" := by rfl) (hgt : Gl X "str" := by rfl) (h1 : starEach [a, .Name "str" p2] X.env = (false, eval a X.env) :: starEach [.Name "str" p2] X.env := by rfl) (h2 : starEach [.Name "str" p2] X.env = (false, eval (.Name "str" p2) X.env) :: starEach [] X.env := by rfl)
    (hpl : (backTo pos (starEach [.Name "str" p2] X.env)).any (·.1) = false := by rfl) : GE N X W (.Call (.Name "isinstance" p) [a, .Name "str" p2] [] pos) (eUn (uIs .str) ma) :=
  g_isi .str ha (pe_bltn (v := .ty "str") hgt hmt (by rfl) rfl (by decide) (by decide)) hg hm (by rfl) (by decide) (by decide) h1 h2 hpl
theorem gb_is_tuple (hm : X.mg "isinstance" = none) (hmt : X.mg "tuple" = none) (ha : GE N X W a ma) {p2 : Pos} (hg : Gl X "isinstance" := by rfl) (hgt : Gl X "tuple" := by rfl) (h1 : starEach [a, .Name "tuple" p2] X.env = (false, eval a X.env) :: starEach [.Name "tuple" p2] X.env := by rfl) (h2 : starEach [.Name "tuple" p2] X.env = (false, eval (.Name "tuple" p2) X.env) :: starEach [] X.env := by rfl)
    (hpl : (backTo pos (starEach [.Name "tuple" p2] X.env)).any (·.1) = false := by rfl) : GE N X W (.Call (.Name "isinstance" p) [a, .Name "tuple" p2] [] pos) (eUn (uIs .tuple) ma) :=
  g_isi .tuple ha (pe_bltn (v := .ty "tuple") hgt hmt (by rfl) rfl (by decide) (by decide)) hg hm (by rfl) (by decide) (by decide) h1 h2 hpl
theorem gb_is_list (hm : X.mg "isinstance" = none) (hmt : X.mg "list" = none) (ha : GE N X W a ma) {p2 : Pos} (hg : Gl X "isinstance" := by rfl) (hgt : Gl X "list" := by rfl) (h1 : starEach [a, .Name "list" p2] X.env = (false, eval a X.env) :: starEach [.Name "list" p2] X.env := by rfl) (h2 : starEach [.Name "list" p2] X.env = (false, eval (.Name "list" p2) X.env) :: starEach [] X.env := by rfl)
    (hpl : (backTo pos (starEach [.Name "list" p2] X.env)).any (·.1) = false := by rfl) : GE N X W (.Call (.Name "isinstance" p) [a, .Name "list" p2] [] pos) (eUn (uIs .list) ma) :=
  g_isi .list ha (pe_bltn (v := .ty "list") hgt hmt (by rfl) rfl (by decide) (by decide)) hg hm (by rfl) (by decide) (by decide) h1 h2 hpl
/-! operators -/
theorem gp_add (ha : GE N X W a ma) (hb : GE N X W b mb) : GE N X W (.BinOp a .Add b pos) (eBin bAdd ma mb) := g_bin op_addG g_add ha hb
theorem gp_sub (ha : GE N X W a ma) (hb : GE N X W b mb) : GE N X W (.BinOp a .Sub b pos) (eBin bSub ma mb) := g_bin op_sub g_sub ha hb
theorem gp_mul (ha : GE N X W a ma) (hb : GE N X W b mb) : GE N X W (.BinOp a .Mult b pos) (eBin bMul ma mb) := g_bin op_mulG g_mul ha hb
theorem gp_div (ha : GE N X W a ma) (hb : GE N X W b mb) : GE N X W (.BinOp a .FloorDiv b pos) (eBin bDiv ma mb) := g_bin op_fdiv g_div ha hb
theorem gp_mod (ha : GE N X W a ma) (hb : GE N X W b mb) : GE N X W (.BinOp a .Mod b pos) (eBin bMod ma mb) := g_bin op_mod g_mod ha hb
theorem gp_addT (ha : GE N X W a ma) (hb : GE N X W b mb) : GE N X W (.BinOp a .Add b pos) (eBinT bAdd ma mb) := g_binT op_addG g_addT ha hb
theorem gp_mulT (ha : GE N X W a ma) (hb : GE N X W b mb) : GE N X W (.BinOp a .Mult b pos) (eBinT bMul ma mb) := g_binT op_mulG g_mulT ha hb
theorem gq_eq (hr : Room k X.A) (ha : GE N X W a ma) (hb : GE N X W b mb) (hm : behindInMarks .Eq b = false := by rfl) : GE N X W (.Compare a [.Eq] [b] pos) (eBin bEq ma mb) := g_cmp (op_eqD (by have := hr.un; omega)) g_eq hm ha hb
theorem gtq_eq (hr : Room k X.A) (ha : GE N X W a ma) (hb : GE N X W b mb) (hm : behindInMarks .Eq b = false := by rfl) : GT N X W (.Compare a [.Eq] [b] pos) (tV (eBin bEq ma mb)) := gt_cmp (op_eqD (by have := hr.un; omega)) g_eq hm ha hb
theorem gq_ne (hr : Room k X.A) (ha : GE N X W a ma) (hb : GE N X W b mb) (hm : behindInMarks .NotEq b = false := by rfl) : GE N X W (.Compare a [.NotEq] [b] pos) (eBin bNe ma mb) := g_cmp (op_neD (by have := hr.un; omega)) g_ne hm ha hb
theorem gtq_ne (hr : Room k X.A) (ha : GE N X W a ma) (hb : GE N X W b mb) (hm : behindInMarks .NotEq b = false := by rfl) : GT N X W (.Compare a [.NotEq] [b] pos) (tV (eBin bNe ma mb)) := gt_cmp (op_neD (by have := hr.un; omega)) g_ne hm ha hb
theorem gq_lt (hr : Room k X.A) (ha : GE N X W a ma) (hb : GE N X W b mb) (hm : behindInMarks .Lt b = false := by rfl) : GE N X W (.Compare a [.Lt] [b] pos) (eBin bLt ma mb) := g_cmp (op_ltG (by have := hr.un; omega)) g_lt hm ha hb
theorem gtq_lt (hr : Room k X.A) (ha : GE N X W a ma) (hb : GE N X W b mb) (hm : behindInMarks .Lt b = false := by rfl) : GT N X W (.Compare a [.Lt] [b] pos) (tV (eBin bLt ma mb)) := gt_cmp (op_ltG (by have := hr.un; omega)) g_lt hm ha hb
theorem gq_le (ha : GE N X W a ma) (hb : GE N X W b mb) (hm : behindInMarks .LtE b = false := by rfl) : GE N X W (.Compare a [.LtE] [b] pos) (eBin bLe ma mb) := g_cmp op_le g_le hm ha hb
theorem gtq_le (ha : GE N X W a ma) (hb : GE N X W b mb) (hm : behindInMarks .LtE b = false := by rfl) : GT N X W (.Compare a [.LtE] [b] pos) (tV (eBin bLe ma mb)) := gt_cmp op_le g_le hm ha hb
theorem gq_gt (ha : GE N X W a ma) (hb : GE N X W b mb) (hm : behindInMarks .Gt b = false := by rfl) : GE N X W (.Compare a [.Gt] [b] pos) (eBin bGt ma mb) := g_cmp op_gt g_gt hm ha hb
theorem gtq_gt (ha : GE N X W a ma) (hb : GE N X W b mb) (hm : behindInMarks .Gt b = false := by rfl) : GT N X W (.Compare a [.Gt] [b] pos) (tV (eBin bGt ma mb)) := gt_cmp op_gt g_gt hm ha hb
theorem gq_ge (ha : GE N X W a ma) (hb : GE N X W b mb) (hm : behindInMarks .GtE b = false := by rfl) : GE N X W (.Compare a [.GtE] [b] pos) (eBin bGe ma mb) := g_cmp op_ge g_ge hm ha hb
theorem gtq_ge (ha : GE N X W a ma) (hb : GE N X W b mb) (hm : behindInMarks .GtE b = false := by rfl) : GT N X W (.Compare a [.GtE] [b] pos) (tV (eBin bGe ma mb)) := gt_cmp op_ge g_ge hm ha hb
theorem gq_in (hr : Room k X.A) (ha : GE N X W a ma) (hb : GE N X W b mb) (hm : behindInMarks .In b = false := by rfl) : GE N X W (.Compare a [.In] [b] pos) (eBin bInD ma mb) := g_cmp (op_inG (by have := hr.un; omega)) g_in hm ha hb
theorem gtq_in (hr : Room k X.A) (ha : GE N X W a ma) (hb : GE N X W b mb) (hm : behindInMarks .In b = false := by rfl) : GT N X W (.Compare a [.In] [b] pos) (tV (eBin bInD ma mb)) := gt_cmp (op_inG (by have := hr.un; omega)) g_in hm ha hb
theorem gq_nin (hr : Room k X.A) (ha : GE N X W a ma) (hb : GE N X W b mb) (hm : behindInMarks .NotIn b = false := by rfl) : GE N X W (.Compare a [.NotIn] [b] pos) (eBin bNotIn ma mb) := g_cmp (op_notInG (by have := hr.un; omega)) g_notIn hm ha hb
theorem gtq_nin (hr : Room k X.A) (ha : GE N X W a ma) (hb : GE N X W b mb) (hm : behindInMarks .NotIn b = false := by rfl) : GT N X W (.Compare a [.NotIn] [b] pos) (tV (eBin bNotIn ma mb)) := gt_cmp (op_notInG (by have := hr.un; omega)) g_notIn hm ha hb
theorem gq_is (ha : GE N X W a ma) (hb : GE N X W b mb) (hm : behindInMarks .Is b = false := by rfl) : GE N X W (.Compare a [.Is] [b] pos) (eBin bIs ma mb) := g_cmp op_is_bl g_is hm ha hb
theorem gtq_is (ha : GE N X W a ma) (hb : GE N X W b mb) (hm : behindInMarks .Is b = false := by rfl) : GT N X W (.Compare a [.Is] [b] pos) (tV (eBin bIs ma mb)) := gt_cmp op_is_bl g_is hm ha hb
theorem gq_isn (ha : GE N X W a ma) (hb : GE N X W b mb) (hm : behindInMarks .IsNot b = false := by rfl) : GE N X W (.Compare a [.IsNot] [b] pos) (eBin bIsNot ma mb) := g_cmp op_isnot_bl g_isNot hm ha hb
theorem gtq_isn (ha : GE N X W a ma) (hb : GE N X W b mb) (hm : behindInMarks .IsNot b = false := by rfl) : GT N X W (.Compare a [.IsNot] [b] pos) (tV (eBin bIsNot ma mb)) := gt_cmp op_isnot_bl g_isNot hm ha hb
theorem gq_le_le (ha : GE N X W a ma) (hb : GE N X W b mb) (hc : GE N X W c mc) (hm : lastMarks [.LtE, .LtE] [b, c] = false := by with_unfolding_all rfl) : GE N X W (.Compare a [.LtE, .LtE] [b, c] pos) (eChain bLe bLe ma mb mc) := g_chain op_le op_le g_le g_le ha hb hc hm
theorem gtq_le_le (ha : GE N X W a ma) (hb : GE N X W b mb) (hc : GE N X W c mc) (hm : lastMarks [.LtE, .LtE] [b, c] = false := by with_unfolding_all rfl) : GT N X W (.Compare a [.LtE, .LtE] [b, c] pos) (tV (eChain bLe bLe ma mb mc)) := gt_chain op_le op_le g_le g_le ha hb hc hm
theorem gq_le_lt (hr : Room k X.A) (ha : GE N X W a ma) (hb : GE N X W b mb) (hc : GE N X W c mc) (hm : lastMarks [.LtE, .Lt] [b, c] = false := by with_unfolding_all rfl) : GE N X W (.Compare a [.LtE, .Lt] [b, c] pos) (eChain bLe bLt ma mb mc) := g_chain op_le (op_ltG (by have := hr.un; omega)) g_le g_lt ha hb hc hm
theorem gtq_le_lt (hr : Room k X.A) (ha : GE N X W a ma) (hb : GE N X W b mb) (hc : GE N X W c mc) (hm : lastMarks [.LtE, .Lt] [b, c] = false := by with_unfolding_all rfl) : GT N X W (.Compare a [.LtE, .Lt] [b, c] pos) (tV (eChain bLe bLt ma mb mc)) := gt_chain op_le (op_ltG (by have := hr.un; omega)) g_le g_lt ha hb hc hm
theorem gq_lt_le (hr : Room k X.A) (ha : GE N X W a ma) (hb : GE N X W b mb) (hc : GE N X W c mc) (hm : lastMarks [.Lt, .LtE] [b, c] = false := by with_unfolding_all rfl) : GE N X W (.Compare a [.Lt, .LtE] [b, c] pos) (eChain bLt bLe ma mb mc) := g_chain (op_ltG (by have := hr.un; omega)) op_le g_lt g_le ha hb hc hm
theorem gtq_lt_le (hr : Room k X.A) (ha : GE N X W a ma) (hb : GE N X W b mb) (hc : GE N X W c mc) (hm : lastMarks [.Lt, .LtE] [b, c] = false := by with_unfolding_all rfl) : GT N X W (.Compare a [.Lt, .LtE] [b, c] pos) (tV (eChain bLt bLe ma mb mc)) := gt_chain (op_ltG (by have := hr.un; omega)) op_le g_lt g_le ha hb hc hm
theorem gq_lt_lt (hr : Room k X.A) (ha : GE N X W a ma) (hb : GE N X W b mb) (hc : GE N X W c mc) (hm : lastMarks [.Lt, .Lt] [b, c] = false := by with_unfolding_all rfl) : GE N X W (.Compare a [.Lt, .Lt] [b, c] pos) (eChain bLt bLt ma mb mc) := g_chain (op_ltG (by have := hr.un; omega)) (op_ltG (by have := hr.un; omega)) g_lt g_lt ha hb hc hm
theorem gtq_lt_lt (hr : Room k X.A) (ha : GE N X W a ma) (hb : GE N X W b mb) (hc : GE N X W c mc) (hm : lastMarks [.Lt, .Lt] [b, c] = false := by with_unfolding_all rfl) : GT N X W (.Compare a [.Lt, .Lt] [b, c] pos) (tV (eChain bLt bLt ma mb mc)) := gt_chain (op_ltG (by have := hr.un; omega)) (op_ltG (by have := hr.un; omega)) g_lt g_lt ha hb hc hm
theorem gix (hr : Room k X.A) (ha : GE N X W a ma) (hb : GE N X W b mb) (hs : PlainIx b := by intro _ _; rfl) : GE N X W (.Subscript a b pos) (eBin bIx ma mb) := g_ix (by have := hr.un; omega) ha hb hs
theorem gsub {mo mi : EM} {o i : Expr} (hr : Room k X.A) (ho : GE N X WF o mo) (hi : GE N X WF i mi) (ha : ∀ v, assign (.Subscript o i pos) X.env v = (do
      let ov ← holding [v] (eval o X.env)
      let iv ← holding [v, ov] (eval i X.env)
      standAt pos
      holding [v, ov, iv] (setItem ov iv v)
      release [v, ov, iv] []) := by intro _; rfl) : GTg N X (.Subscript o i pos) (.sub mo mi) := gt_sub (by have := hr.un; omega) ho hi ha
/-! methods, classes -/
theorem gm0 {pl : Sem Bool} {cl : Nat} (C : ClsOk X.K N cl) (hM : Meth X.K (N.cad cl) m f) {bad : List Nat} (hnm : ∀ i, (bad.any fun j => Nat.beq j i) = false → N.fnm i ≠ m) (F : GFx X.prog X.w X.K X.mg X.base N k0 f ps fm) (hk : k0 ≤ k) (tk : Takes X W) (hr : Room k X.A) (ho : GE N X W o mo) (hl : 1 = ps.length := by rfl) (ht : eval (.Call (.Attribute o m apos) [] [] pos) X.env = (do
      let ov ← eval o X.env
      standAt apos.atName
      let (f, first) ← holding [ov] (getMethod ov m pl)
      callWith pos f first (backTo pos (starEach [] X.env)) (backToKw pos (keywordEach [] X.env))) := by rfl) : GE N X W (.Call (.Attribute o m apos) [] [] pos) (eMeth bad cl fm mo aNil) := by
  obtain ⟨fd, F, hbi, kp⟩ := F
  exact g_meth0 C hM hnm (F.mono hk) tk hr hbi hl ho ht
theorem gm1 {pl : Sem Bool} {cl : Nat} (C : ClsOk X.K N cl) (hM : Meth X.K (N.cad cl) m f) {bad : List Nat} (hnm : ∀ i, (bad.any fun j => Nat.beq j i) = false → N.fnm i ≠ m) (F : GFx X.prog X.w X.K X.mg X.base N k0 f ps fm) (hk : k0 ≤ k) (tk : Takes X W) (hr : Room k X.A) (ho : GE N X W o mo) (ha : GE N X W a ma) (hl : 2 = ps.length := by rfl) (s1 : starEach [a] X.env = (false, eval a X.env) :: starEach [] X.env := by rfl) (hpl : (backTo pos (starEach [] X.env)).any (·.1) = false := by rfl) (ht : eval (.Call (.Attribute o m apos) [a] [] pos) X.env = (do
      let ov ← eval o X.env
      standAt apos.atName
      let (f, first) ← holding [ov] (getMethod ov m pl)
      callWith pos f first (backTo pos (starEach [a] X.env)) (backToKw pos (keywordEach [] X.env))) := by rfl) : GE N X W (.Call (.Attribute o m apos) [a] [] pos) (eMeth bad cl fm mo (aCons ma aNil)) := by
  obtain ⟨fd, F, hbi, kp⟩ := F
  exact g_meth C hM hnm (F.mono hk) tk hr hbi hl ho (ga_cons ha ga_nil s1) (an_cons (e := a) an_nil) s1 hpl ht
theorem gmk1 {cl : Nat} (M : Mk X.K (N.cad cl) f) (F : GFx X.prog X.w X.K X.mg X.base N k0 f ps fm) (hk : k0 + 1 ≤ k) (tk : Takes X W) (hr : Room k X.A) (hm : X.mg x = some (.ref (N.cad cl))) (ha : GE N X W a ma) (hl : 2 = ps.length := by rfl) (hg : Gl X x := by rfl) (hdb : (x == ("__debug__" : Str)) = false := by decide) (s1 : starEach [a] X.env = (false, eval a X.env) :: starEach [] X.env := by rfl) (hpl : (backTo pos (starEach [] X.env)).any (·.1) = false := by rfl) : GE N X W (.Call (.Name x p) [a] [] pos) (eMake cl fm (aCons ma aNil)) := by
  obtain ⟨fd, F, hbi, kp⟩ := F
  exact g_make M F tk (hr.mono hk) hm hbi hl (ga_cons ha ga_nil s1) (an_cons (e := a) an_nil) hg hdb s1 hpl
theorem gm2 {pl : Sem Bool} {cl : Nat} (C : ClsOk X.K N cl) (hM : Meth X.K (N.cad cl) m f) {bad : List Nat} (hnm : ∀ i, (bad.any fun j => Nat.beq j i) = false → N.fnm i ≠ m) (F : GFx X.prog X.w X.K X.mg X.base N k0 f ps fm) (hk : k0 ≤ k) (tk : Takes X W) (hr : Room k X.A) (ho : GE N X W o mo) (ha : GE N X W a ma) (hb : GE N X W b mb) (hl : 3 = ps.length := by rfl) (s1 : starEach [a, b] X.env = (false, eval a X.env) :: starEach [b] X.env := by rfl) (s2 : starEach [b] X.env = (false, eval b X.env) :: starEach [] X.env := by rfl) (hpl : (backTo pos (starEach [b] X.env)).any (·.1) = false := by rfl) (ht : eval (.Call (.Attribute o m apos) [a, b] [] pos) X.env = (do
      let ov ← eval o X.env
      standAt apos.atName
      let (f, first) ← holding [ov] (getMethod ov m pl)
      callWith pos f first (backTo pos (starEach [a, b] X.env)) (backToKw pos (keywordEach [] X.env))) := by rfl) : GE N X W (.Call (.Attribute o m apos) [a, b] [] pos) (eMeth bad cl fm mo (aCons ma (aCons mb aNil))) := by
  obtain ⟨fd, F, hbi, kp⟩ := F
  exact g_meth C hM hnm (F.mono hk) tk hr hbi hl ho (ga_cons ha (ga_cons hb ga_nil s2) s1) (an_cons (e := a) (an_cons (e := b) an_nil)) s1 hpl ht
theorem gmk2 {cl : Nat} (M : Mk X.K (N.cad cl) f) (F : GFx X.prog X.w X.K X.mg X.base N k0 f ps fm) (hk : k0 + 1 ≤ k) (tk : Takes X W) (hr : Room k X.A) (hm : X.mg x = some (.ref (N.cad cl))) (ha : GE N X W a ma) (hb : GE N X W b mb) (hl : 3 = ps.length := by rfl) (hg : Gl X x := by rfl) (hdb : (x == ("__debug__" : Str)) = false := by decide) (s1 : starEach [a, b] X.env = (false, eval a X.env) :: starEach [b] X.env := by rfl) (s2 : starEach [b] X.env = (false, eval b X.env) :: starEach [] X.env := by rfl) (hpl : (backTo pos (starEach [b] X.env)).any (·.1) = false := by rfl) : GE N X W (.Call (.Name x p) [a, b] [] pos) (eMake cl fm (aCons ma (aCons mb aNil))) := by
  obtain ⟨fd, F, hbi, kp⟩ := F
  exact g_make M F tk (hr.mono hk) hm hbi hl (ga_cons ha (ga_cons hb ga_nil s2) s1) (an_cons (e := a) (an_cons (e := b) an_nil)) hg hdb s1 hpl
theorem gm3 {pl : Sem Bool} {cl : Nat} (C : ClsOk X.K N cl) (hM : Meth X.K (N.cad cl) m f) {bad : List Nat} (hnm : ∀ i, (bad.any fun j => Nat.beq j i) = false → N.fnm i ≠ m) (F : GFx X.prog X.w X.K X.mg X.base N k0 f ps fm) (hk : k0 ≤ k) (tk : Takes X W) (hr : Room k X.A) (ho : GE N X W o mo) (ha : GE N X W a ma) (hb : GE N X W b mb) (hc : GE N X W c mc) (hl : 4 = ps.length := by rfl) (s1 : starEach [a, b, c] X.env = (false, eval a X.env) :: starEach [b, c] X.env := by rfl) (s2 : starEach [b, c] X.env = (false, eval b X.env) :: starEach [c] X.env := by rfl) (s3 : starEach [c] X.env = (false, eval c X.env) :: starEach [] X.env := by rfl) (hpl : (backTo pos (starEach [b, c] X.env)).any (·.1) = false := by rfl) (ht : eval (.Call (.Attribute o m apos) [a, b, c] [] pos) X.env = (do
      let ov ← eval o X.env
      standAt apos.atName
      let (f, first) ← holding [ov] (getMethod ov m pl)
      callWith pos f first (backTo pos (starEach [a, b, c] X.env)) (backToKw pos (keywordEach [] X.env))) := by rfl) : GE N X W (.Call (.Attribute o m apos) [a, b, c] [] pos) (eMeth bad cl fm mo (aCons ma (aCons mb (aCons mc aNil)))) := by
  obtain ⟨fd, F, hbi, kp⟩ := F
  exact g_meth C hM hnm (F.mono hk) tk hr hbi hl ho (ga_cons ha (ga_cons hb (ga_cons hc ga_nil s3) s2) s1) (an_cons (e := a) (an_cons (e := b) (an_cons (e := c) an_nil))) s1 hpl ht
theorem gmk3 {cl : Nat} (M : Mk X.K (N.cad cl) f) (F : GFx X.prog X.w X.K X.mg X.base N k0 f ps fm) (hk : k0 + 1 ≤ k) (tk : Takes X W) (hr : Room k X.A) (hm : X.mg x = some (.ref (N.cad cl))) (ha : GE N X W a ma) (hb : GE N X W b mb) (hc : GE N X W c mc) (hl : 4 = ps.length := by rfl) (hg : Gl X x := by rfl) (hdb : (x == ("__debug__" : Str)) = false := by decide) (s1 : starEach [a, b, c] X.env = (false, eval a X.env) :: starEach [b, c] X.env := by rfl) (s2 : starEach [b, c] X.env = (false, eval b X.env) :: starEach [c] X.env := by rfl) (s3 : starEach [c] X.env = (false, eval c X.env) :: starEach [] X.env := by rfl) (hpl : (backTo pos (starEach [b, c] X.env)).any (·.1) = false := by rfl) : GE N X W (.Call (.Name x p) [a, b, c] [] pos) (eMake cl fm (aCons ma (aCons mb (aCons mc aNil)))) := by
  obtain ⟨fd, F, hbi, kp⟩ := F
  exact g_make M F tk (hr.mono hk) hm hbi hl (ga_cons ha (ga_cons hb (ga_cons hc ga_nil s3) s2) s1) (an_cons (e := a) (an_cons (e := b) (an_cons (e := c) an_nil))) hg hdb s1 hpl
end
end G
end

section
set_option Elab.async false
set_option linter.all false
set_option maxRecDepth 100000
set_option maxHeartbeats 4000000
/-! GA5: names of fields, tests of comprehensions, kinds of errors. By an AI agent. -/
namespace G
open PySem PySem.Spec PyProof.Rows L2
variable [Cold]
section
variable {N : Nm} {X : Cx} {W : WX} {c : Expr} {tc : TM}
theorem ptsG_nil : PTs X [] (tB_ X.K N W G.tYes) := ⟨fun pins s σ H Q I ⟨env, S, ρ, fr, h⟩ => (pts_nil (X := X)).run pins s σ H Q I (PostB.ok h fr.rel)⟩
theorem ptsG_one (h : GT N X W c tc) : PTs X [c] (tB_ X.K N W tc) := pts_one h
end
/-- fields' names by their numbers -/
def fnmL (l : List Str) (k : Nat) : Str := match l[k]? with
  | some x => x
  | none => ⟨#[0, k]⟩
def okFn (l : List Str) : Bool := decide l.Nodup && l.all fun x => x.cps[0]? != some 0
theorem fnmL_inj {l : List Str} (h : okFn l = true) (j k : Nat) (e : fnmL l j = fnmL l k) : j = k := by
  unfold okFn at h
  rw [Bool.and_eq_true] at h
  obtain ⟨h1, h2⟩ := h
  have nd := of_decide_eq_true h1
  have h2 := List.all_eq_true.mp h2
  unfold fnmL at e
  cases hj : l[j]? with
  | none =>
    rw [hj] at e
    cases hk : l[k]? with
    | none =>
      rw [hk] at e
      injection e with e
      have := congrArg Array.toList e
      simpa using this
    | some y =>
      rw [hk] at e
      have := h2 y (List.mem_of_getElem? hk)
      rw [← show (⟨#[0, j]⟩ : Str) = y from e] at this
      simp at this
  | some x =>
    rw [hj] at e
    cases hk : l[k]? with
    | none =>
      rw [hk] at e
      have := h2 x (List.mem_of_getElem? hj)
      rw [show x = (⟨#[0, k]⟩ : Str) from e] at this
      simp at this
    | some y =>
      rw [hk] at e
      have e : x = y := e
      subst e
      have i1 := List.getElem?_eq_some_iff.mp hj
      have i2 := List.getElem?_eq_some_iff.mp hk
      exact (List.getElem_inj nd).mp (i1.2.trans i2.2.symm)
theorem fnmL_ne {l : List Str} {m : Str} (h : (l.all fun x => x != m) && m.cps[0]? != some 0) (i : Nat) : fnmL l i ≠ m := by
  rw [Bool.and_eq_true] at h
  unfold fnmL
  cases hi : l[i]? with
  | none =>
    intro e
    have e : (⟨#[0, i]⟩ : Str) = m := e
    have h2 := h.2
    rw [← e] at h2
    simp at h2
  | some x =>
    intro e
    have e : x = m := e
    have := List.all_eq_true.mp h.1 x (List.mem_of_getElem? hi)
    rw [e] at this
    simp at this
theorem fnmL_neB {l : List Str} {m : Str} {bad : List Nat} (h : ((List.range l.length).all fun i => (bad.any fun j => Nat.beq j i) || (l.getD i Str.empty) != m) && m.cps[0]? != some 0) (i : Nat) (hb : (bad.any fun j => Nat.beq j i) = false) : fnmL l i ≠ m := by
  rw [Bool.and_eq_true] at h
  unfold fnmL
  cases hi : l[i]? with
  | none =>
    intro e
    have e : (⟨#[0, i]⟩ : Str) = m := e
    have h2 := h.2
    rw [← e] at h2
    simp at h2
  | some x =>
    intro e
    have e : x = m := e
    have := List.all_eq_true.mp h.1 i (List.mem_range.mpr (List.getElem?_eq_some_iff.mp hi).1)
    rw [hb, List.getD_eq_getElem?_getD, hi, Bool.false_or] at this
    rw [← e] at this
    simp at this
theorem kitOne_of {K : PySem.W.Frag} {t c : Value} {b : Bool} (h : PySem.W.exmOne K t c = some b) (n : (t == c) = true → b = true) : PySem.W.kitOne K t c = some b := by
  unfold PySem.W.exmOne at h
  unfold PySem.W.kitOne
  by_cases e : (t == c) = true
  · rw [if_pos e, n e]
  · rw [if_neg e]
    split at h
    · exact h
    · cases h
end G
end

section
set_option Elab.async false
set_option linter.all false
set_option maxRecDepth 100000
set_option maxHeartbeats 4000000
/-! GA6: name = {k: v for ..}; a, b = x, y; methods whose name another class's field has. By an AI agent. -/
namespace L2
open PySem PySem.Spec PyProof.Rows
section
variable {X : Cx}
theorem ps_setDc {i : Nat} {y : Str} {py : Pos} {kx vx tg iter : Expr} {ifs : List Expr} {scope : Scope} {own : List (Str × Nat)} {pos spos : Pos} {wi : TI} {g : TG} {tt : TT} {tk tv : TE} (hc : X.calm = true) (hN : X.N.Nodup) (hy : X.N[i]? = some y) (hyl : X.env.scope.names.lookup y = some .local)
    (hsw : swapsWith (.DictComp kx vx [⟨tg, iter, ifs, 0⟩] scope pos) (some (.Name y py)) spos.line X.env = pure true) (hi : PI X tg iter wi) (ok : BlkOk X.N X.env.scope scope own)
    (hg : ∀ (s : Shared) (H : Hp) (C : Addr) (cl : List (Str × Addr)) (fp : List Addr), PG (X.blk s H scope (compEnvC scope cl C X.env) fp) tg g) (ht : ∀ (s : Shared) (H : Hp) (C : Addr) (cl : List (Str × Addr)) (fp : List Addr), PTs (X.blk s H scope (compEnvC scope cl C X.env) fp) ifs tt)
    (hk : ∀ (s : Shared) (H : Hp) (C : Addr) (cl : List (Str × Addr)) (fp : List Addr), PE (X.blk s H scope (compEnvC scope cl C X.env) fp) kx tk)
    (he : ∀ (s : Shared) (H : Hp) (C : Addr) (cl : List (Str × Addr)) (fp : List Addr), PE (X.blk s H scope (compEnvC scope cl C X.env) fp) vx tv) (hs : ∀ x, foldedSetIterable iter X.env x = pure x := by intro _; rfl) :
    PS X (.Assign [.Name y py] (.DictComp kx vx [⟨tg, iter, ifs, 0⟩] scope pos) spos) (tAsg (tDc wi g tt tk tv (own.map (·.2))) (gName i)) := by
  refine ⟨fun pins s σ H D I h => ?_⟩
  rw [exec_Assign_Name_used _ _ _ _ hsw]
  refine wpAny_bind (wpAny_standAt (wpAny_bind ?_))
  show wpAny _ X.A (do let _ ← comprehension (.DictComp kx vx [⟨tg, iter, ifs, 0⟩] scope pos) scope X.env (firstIterPos [⟨tg, iter, ifs, 0⟩] pos) newDict false (eval iter X.env) (some (assign (.Name y py) X.env))) _ _ s
  have h : tDc wi g tt tk tv (own.map (·.2)) σ H (fun x H1 => gName i x σ H1 D.nx) := h
  refine wpAny_bind (thn (dc_core (Qf := fun _ s' => SP X pins D .next s') hc hN I hi ok hg ht hk he hs h fun L C s' m H' I' q hn f => ?_) fun _ s' hq => wpAny_pure (wpAny_pure hq))
  show wpAny _ _ (assign (.Name y py) X.env (.ref L)) _ _ _
  refine wpAny_assign_Name (store_ok2 (v := V.ref L) I' hN hy (.inl hyl) rfl (fun s2 I2 ⟨a, sb, ha⟩ => ?_) (.inr hyl))
  obtain ⟨f0, f1, f2, f3, f4, f5⟩ := f
  have haC : C ≠ a := by
    rcases ha with z | z
    · rw [z]; exact f1
    · exact fun e => f4 y a z e.symm
  refine ⟨m, hn.sameBut sb haC, fun h3 sb3 => ?_⟩
  exact ⟨_, H', I2.turned (t' := s2.toks) (fun b o hb e => (sb3.2 b hb).trans e) f0 f1 f3 f4 f5, q⟩
theorem sw_trueD {kx vx : Expr} {gs : List Comprehension} {scope : Scope} {pos py : Pos} {y : Str} {l : Nat} {env : Env} (hk : env.scope.kind = .function) (hy : env.scope.names.lookup y = some .local) (hl : (py.line == pos.line) = true)
    (ha : (scope.names.any fun (n, k) => n == y && (k == .local || k == .cell)) = false) : swapsWith (.DictComp kx vx gs scope pos) (some (.Name y py)) l env = pure true := by
  have ky : env.kindOf y = some .local := hy
  have hb : env.blockKind = .function := by unfold Env.blockKind; rw [hk]; rfl
  unfold swapsWith
  simp only [hb, ky, ha, Expr.pos, hl]
  rfl
end
end L2
namespace G
open PySem PySem.Spec PyProof.Rows L2
variable [Cold]
section
variable {N : Nm} {X : Cx} {W : WX} {kx vx elt tg it e : Expr} {ifs : List Expr} {scope : Scope} {own : List (Str × Nat)} {pos spos : Pos} {mi : IM} {pt : Pat} {tc : TM} {mk mv me mt : EM}
theorem setI {K : PySem.W.Frag} {env : Env} {S : Store} {ρ : Pl} {σ : L2.St} {H : Hp} {i : Nat} {m : EM} {E : Ends} (fr : Fr K N env S ρ σ H) (h : PostO K N W ρ H (sSet (.nm i) m env S) E) : tE K N W m σ H fun x H1 => gName i x σ H1 E.nx :=
  ⟨env, S, ρ, fr, PostO.E fr h fun d S1 ρ1 v H1 st r1 p1 h1 => by
    have h2 : PostO K N W ρ1 H1 (.nx (env.set i (some d)) S1) E := h1
    exact PostO.nextE ((fr.step st r1).set p1) h2⟩
theorem gs_setDc {i : Nat} {y : Str} {py : Pos} (hc : X.calm = true) (hN : X.N.Nodup) (hy : X.N[i]? = some y) (hyl : X.env.scope.names.lookup y = some .local) (hsw : swapsWith (.DictComp kx vx [⟨tg, it, ifs, 0⟩] scope pos) (some (.Name y py)) spos.line X.env = pure true)
    (hi : GI N X W tg it mi) (ok : BlkOk X.N X.env.scope scope own) (hsl : ∀ i ∈ pt.slots, i ∈ own.map (·.2))
    (hg : ∀ (s : Shared) (H : Hp) (C : Addr) (cl : List (Str × Addr)) (fp : List Addr), GP N (X.blk s H scope (compEnvC scope cl C X.env) fp) tg pt) (ht : ∀ (s : Shared) (H : Hp) (C : Addr) (cl : List (Str × Addr)) (fp : List Addr), PTs (X.blk s H scope (compEnvC scope cl C X.env) fp) ifs (tB_ X.K N WF tc))
    (hk : ∀ (s : Shared) (H : Hp) (C : Addr) (cl : List (Str × Addr)) (fp : List Addr), GE N (X.blk s H scope (compEnvC scope cl C X.env) fp) WF kx mk)
    (he : ∀ (s : Shared) (H : Hp) (C : Addr) (cl : List (Str × Addr)) (fp : List Addr), GE N (X.blk s H scope (compEnvC scope cl C X.env) fp) WF vx mv) (hs : ∀ x, foldedSetIterable it X.env x = pure x := by intro _; rfl) :
    GS N X W (.Assign [.Name y py] (.DictComp kx vx [⟨tg, it, ifs, 0⟩] scope pos) spos) (sSet (.nm i) (eDc (own.map (·.2)) pt mi tc mk mv)) :=
  PS.imp (ps_setDc (g := tP X.K N pt) (tt := tB_ X.K N WF tc) (tk := tE X.K N WF mk) (tv := tE X.K N WF mv) hc hN hy hyl hsw hi ok hg ht hk he hs) fun E σ H ⟨env, S, ρ, fr, h⟩ => dc_i hsl (setI fr h)
theorem gs_setLcS {i : Nat} {y : Str} {py : Pos} (hc : X.calm = true) (hN : X.N.Nodup) (hy : X.N[i]? = some y) (hyl : X.env.scope.names.lookup y = some .local) (hsw : swapsWith (.ListComp elt [⟨tg, e, ifs, 0⟩] scope pos) (some (.Name y py)) spos.line X.env = pure true)
    (hi : GE N X W e me) (ok : BlkOk X.N X.env.scope scope own) (hsl : ∀ i ∈ pt.slots, i ∈ own.map (·.2))
    (hg : ∀ (s : Shared) (H : Hp) (C : Addr) (cl : List (Str × Addr)) (fp : List Addr), GP N (X.blk s H scope (compEnvC scope cl C X.env) fp) tg pt) (ht : ∀ (s : Shared) (H : Hp) (C : Addr) (cl : List (Str × Addr)) (fp : List Addr), PTs (X.blk s H scope (compEnvC scope cl C X.env) fp) ifs (tB_ X.K N WF tc))
    (he : ∀ (s : Shared) (H : Hp) (C : Addr) (cl : List (Str × Addr)) (fp : List Addr), GE N (X.blk s H scope (compEnvC scope cl C X.env) fp) WF elt mt) (hs : ∀ x, foldedSetIterable e X.env x = pure x := by intro _; rfl) :
    GS N X W (.Assign [.Name y py] (.ListComp elt [⟨tg, e, ifs, 0⟩] scope pos) spos) (sSet (.nm i) (eLcS (own.map (·.2)) pt me tc mt)) :=
  PS.imp (ps_setLc (g := tP X.K N pt) (tt := tB_ X.K N WF tc) (te := tE X.K N WF mt) hc hN hy hyl hsw (pi_sq hi) ok hg ht he hs) fun E σ H ⟨env, S, ρ, fr, h⟩ => lcS_i hsl (setI fr h)
/-- a, b = x, y -/
def sPar (is : List Nat) (a : AM) : SM := fun env S => match a env S with
  | .ok ds S1 => match bindPs (is.map Pat.nm) ds env with
    | some e => .nx e S1
    | none => .stuck
  | .exc c as S1 => .exc c as env S1
  | .stuck => .stuck
theorem gs_par2 {i j : Nat} {x y : Str} {a b : Expr} {ma : AM} {px py ptt : Pos} {kt k2 pt2} (hc : X.calm = true) (hN : X.N.Nodup) (ha : GA N X W [a, b] ma) (hw : swappedStores [.Tuple [.Name x px, .Name y py] kt ptt] (.Tuple [a, b] k2 pt2) X.env = pure (some [x, y]))
    (hi : X.N[i]? = some x := by rfl) (hj : X.N[j]? = some y := by rfl) (hij : i ≠ j := by decide)
    (hx : X.env.scope.names.lookup x = some .local := by rfl) (hy : X.env.scope.names.lookup y = some .local := by rfl)
    (hs : swapsWithSole [.Tuple [.Name x px, .Name y py] kt ptt] (.Tuple [a, b] k2 pt2) pos.line X.env = pure false := by rfl) :
    GS N X W (.Assign [.Tuple [.Name x px, .Name y py] kt ptt] (.Tuple [a, b] k2 pt2) pos) (sPar [i, j] ma) :=
  PS.imp (ps_par hc hN hi hj hij hx hy ha hw hs) fun E σ H ⟨env, S, ρ, fr, h⟩ => ⟨env, S, ρ, fr, by
    unfold sPar at h
    cases hm : ma env S with
    | stuck => rw [hm] at h; exact h
    | exc c as S1 => rw [hm] at h; exact fun ρ1 oe H1 st r1 x => h ρ1 σ oe H1 st (fr.step st r1) x
    | ok ds S1 =>
      rw [hm] at h
      intro ρ1 vs H1 st r1 p1
      have f1 := fr.step st r1
      dsimp only at h
      cases hb : bindPs ([i, j].map Pat.nm) ds env with
      | none => rw [hb] at h; exact h.elim
      | some e1 =>
        rw [hb] at h
        match ds, hb, p1 with
        | [d1, d2], hb, p1 =>
          obtain ⟨v, r, rfl, q1, w, r2, rfl, q2, q3⟩ := p1
          rw [show r2 = [] from q3]
          have hb' : some ((env.set i (some d1)).set j (some d2)) = some e1 := hb
          cases hb'
          exact ⟨v, w, rfl, PostO.nextE ((f1.set q1).set q2) (PostO.step st h)⟩
        | [], hb, _ => cases hb
        | [_], hb, _ => cases hb
        | _ :: _ :: _ :: _, hb, _ => cases hb⟩
theorem gs_par3 {i j l : Nat} {x y z : Str} {a b c : Expr} {ma : AM} {px py pz ptt : Pos} {kt k2 pt2} (hc : X.calm = true) (hN : X.N.Nodup) (ha : GA N X W [a, b, c] ma) (hw : swappedStores [.Tuple [.Name x px, .Name y py, .Name z pz] kt ptt] (.Tuple [a, b, c] k2 pt2) X.env = pure (some [x, y, z]))
    (hi : X.N[i]? = some x := by rfl) (hj : X.N[j]? = some y := by rfl) (hl : X.N[l]? = some z := by rfl) (hij : i ≠ j := by decide) (hil : i ≠ l := by decide) (hjl : j ≠ l := by decide)
    (hx : X.env.scope.names.lookup x = some .local := by rfl) (hy : X.env.scope.names.lookup y = some .local := by rfl) (hz : X.env.scope.names.lookup z = some .local := by rfl)
    (hs : swapsWithSole [.Tuple [.Name x px, .Name y py, .Name z pz] kt ptt] (.Tuple [a, b, c] k2 pt2) pos.line X.env = pure false := by rfl) :
    GS N X W (.Assign [.Tuple [.Name x px, .Name y py, .Name z pz] kt ptt] (.Tuple [a, b, c] k2 pt2) pos) (sPar [i, j, l] ma) :=
  PS.imp (ps_par3 hc hN hi hj hl hij hil hjl hx hy hz ha hw hs) fun E σ H ⟨env, S, ρ, fr, h⟩ => ⟨env, S, ρ, fr, by
    unfold sPar at h
    cases hm : ma env S with
    | stuck => rw [hm] at h; exact h
    | exc c as S1 => rw [hm] at h; exact fun ρ1 oe H1 st r1 x => h ρ1 σ oe H1 st (fr.step st r1) x
    | ok ds S1 =>
      rw [hm] at h
      intro ρ1 vs H1 st r1 p1
      have f1 := fr.step st r1
      dsimp only at h
      cases hb : bindPs ([i, j, l].map Pat.nm) ds env with
      | none => rw [hb] at h; exact h.elim
      | some e1 =>
        rw [hb] at h
        match ds, hb, p1 with
        | [d1, d2, d3], hb, p1 =>
          obtain ⟨v, r, rfl, q1, w, r2, rfl, q2, u, r3, rfl, q3, q4⟩ := p1
          rw [show r3 = [] from q4]
          have hb' : some (((env.set i (some d1)).set j (some d2)).set l (some d3)) = some e1 := hb
          cases hb'
          exact ⟨v, w, u, rfl, PostO.nextE (((f1.set q1).set q2).set q3) (PostO.step st h)⟩
        | [], hb, _ => cases hb
        | [_], hb, _ => cases hb
        | [_, _], hb, _ => cases hb
        | _ :: _ :: _ :: _ :: _, hb, _ => cases hb⟩
end
end G
end

section
set_option Elab.async false
set_option linter.all false
set_option maxRecDepth 100000
set_option maxHeartbeats 4000000
namespace K97
open G
instance : Cold := ⟨fun _ => false⟩
def xsT : List (List Bool) := [[true, false, false, false, false, false, false], [true, true, false, false, false, false, false], [true, false, true, false, false, false, false], [true, false, false, true, false, false, false], [true, false, false, false, true, false, false], [true, false, false, false, false, true, false], [true, false, false, false, false, false, true]]
def xs (c d : Nat) : Bool := (xsT.getD c []).getD d false
def cov_PlanError : Nat → Option Bool := fun
  | 1 => some true
  | 2 => some true
  | 3 => some true
  | 5 => some true
  | 6 => some true
  | _ => none
def m__law_draws : SM := (sSeq (sSet (.nm 2) ((eLstN aNil)))
    (sSeq (sSet (.nm 3) ((eIf ((tTr (eVar 0))) ((eBin bIx (eVar 0) (eC (.int 0)))) (eC (.int 0)))))
    (sSeq (sIf (tV (eBin bLt (eVar 3) (eC (.int 0)))) (sSet (.nm 3) ((eUn uNeg (eVar 3)))) sNil)
    (sSeq (sIf (tV (eBin bGe (eVar 3) (eC (.int 1000000000000000000)))) (sFor (.nm 5) (iRange1 (eVar 1)) (sIf (tV (eBin bGt (eVar 3) (eC (.int 0)))) (sSeq (sExpr ((eAppend (eVar 2) ((eBin bMod ((eBuilt fInt (aCons (eVar 3) aNil))) (eC (.int 1009)))))))
    (sSet (.nm 3) ((eBin bDiv (eVar 3) (eC (.int 1009)))))) sNil)) sNil)
    (sSeq (sSet (.nm 4) (eC (.int 205)))
    (sSeq (sFor (.nm 5) (iRange1 ((eBin bSub (eVar 1) ((eBuilt fLen (aCons (eVar 2) aNil)))))) (sSeq (sSet (.nm 6) (eVar 5))
    (sSeq (sIf (tTr (eVar 0)) (sSet (.nm 6) ((eBin bMod ((eBuilt fInt (aCons ((eBin bIx (eVar 0) ((eBin bMod ((eBin bAdd (eVar 5) (eC (.int 1)))) ((eBuilt fLen (aCons (eVar 0) aNil))))))) aNil))) (eC (.int 2147483647))))) sNil)
    (sSeq (sSet (.nm 4) ((eBin bMod ((eBuilt fInt (aCons ((eBin bAdd ((eBin bAdd ((eBin bAdd ((eBin bMul (eVar 4) (eC (.int 48271)))) (eVar 6))) ((eBin bMul (eVar 5) (eC (.int 69621)))))) (eC (.int 13)))) aNil))) (eC (.int 2147483647)))))
    (sExpr ((eAppend (eVar 2) ((eBin bMod ((eBin bDiv ((eBin bMod ((eBuilt fInt (aCons ((eBin bAdd ((eBin bMul (eVar 4) (eC (.int 16807)))) (eC (.int 54321)))) aNil))) (eC (.int 2147483647)))) (eC (.int 7)))) (eC (.int 1009)))))))))))
    (sRet (eVar 2))))))))
def fm__law_draws : FM := fnR 2 7 m__law_draws
def m__law_take : SM := (sSeq (sIf (tNot ((tTr (eVar 0)))) (sRet (eC (.int 0))) sNil)
    (sRet ((eBin bMod ((eBuilt fInt (aCons ((ePopT (eVar 0))) aNil))) (eVar 1)))))
def fm__law_take : FM := fnR 2 2 m__law_take
def m__law_lasts : SM := (sSeq (sSet (.nm 4) ((eLstN aNil)))
    (sSeq (sFor (.nm 5) (iRange2 (eC (.int 1)) ((eBuilt fLen (aCons (eVar 1) aNil)))) (sIf (G.tAnd ((tV (eBin bLt ((eBuilt fLen (aCons (eVar 4) aNil))) (eVar 2)))) ((tV (eBin bLt ((eCall fm__law_take (aCons (eVar 0) (aCons (eC (.int 5)) aNil)))) (eC (.int 4)))))) (sSeq (sSet (.nm 6) ((eBin bAdd (eC (.int 1)) ((eCall fm__law_take (aCons (eVar 0) (aCons (eC (.int 4)) aNil)))))))
    (sSeq (sSet (.nm 7) ((eBin bAdd (eVar 6) ((eCall fm__law_take (aCons (eVar 0) (aCons (eVar 3) aNil)))))))
    (sExpr ((eAppend (eVar 4) ((eTupZ (aCons ((eBin bIx (eVar 1) ((eCall fm__law_take (aCons (eVar 0) (aCons (eVar 5) aNil)))))) (aCons (eVar 6) (aCons (eVar 7) (aCons ((eBin bIx (eVar 1) (eVar 5))) aNil))))))))))) sNil))
    (sRet ((eBuilt fTuple (aCons ((eBuilt fSorted (aCons (eVar 4) aNil))) aNil))))))
def fm__law_lasts : FM := fnR 4 8 m__law_lasts
def m__law_bounds : SM := (sSeq (sSet (.nm 5) (eNewT))
    (sSeq (sFor (.nm 6) (iRange1 ((eBin bAdd (eC (.int 1)) ((eCall fm__law_take (aCons (eVar 0) (aCons (eVar 2) aNil))))))) (sSeq (sPar [7, 8] (aCons ((eCall fm__law_take (aCons (eVar 0) (aCons (eVar 1) aNil)))) (aCons ((eCall fm__law_take (aCons (eVar 0) (aCons (eVar 1) aNil)))) aNil)))
    (sIf (tV (eBin bNe (eVar 7) (eVar 8))) (sSetT (.sub (eVar 5) ((eTupZ (aCons (eVar 7) (aCons (eVar 8) aNil))))) ((eBin bAdd (eVar 3) ((eCall fm__law_take (aCons (eVar 0) (aCons (eVar 4) aNil))))))) sNil)))
    (sRet ((eBuilt fTuple (aCons ((eLc [9] (.nm 9) ((iSeq ((eBuilt fSorted (aCons (eVar 5) aNil))))) (G.tYes) ((eTupZ (aCons ((eBin bIx (eVar 9) (eC (.int 0)))) (aCons ((eBin bIx (eVar 9) (eC (.int 1)))) (aCons ((eBin bIx (eVar 5) (eVar 9))) aNil))))))) aNil))))))
def fm__law_bounds : FM := fnR 5 10 m__law_bounds
def m__law_order : SM := (sSeq (sPar [3, 4] (aCons ((eRgT2 (eC (.int 1)) (eVar 1))) (aCons ((eLstN (aCons (eC (.int 0)) aNil))) aNil)))
    (sSeq (sFor (.nm 2) (iRange1 ((eBin bSub (eVar 1) (eC (.int 1))))) (sExpr ((eAppend (eVar 4) ((ePopAtT (eVar 3) ((eCall fm__law_take (aCons (eVar 0) (aCons ((eBuilt fLen (aCons (eVar 3) aNil))) aNil))))))))))
    (sRet (eVar 4))))
def fm__law_order : FM := fnR 2 5 m__law_order
def m__law_couple : SM := (sSeq (sSet (.tp [(.nm 4), (.nm 5), (.nm 6), (.nm 7)]) (eVar 2))
    (sSeq (sPar [8, 9] (aCons ((eCall fm__law_take (aCons (eVar 0) (aCons (eC (.int 6)) aNil)))) (aCons ((eBin bAdd (eC (.int 1)) ((eCall fm__law_take (aCons (eVar 0) (aCons (eVar 5) aNil)))))) aNil)))
    (sIf (tV (eBin bEq (eVar 8) (eC (.int 0)))) (sSetT (.tp [(.sub (eVar 1) ((eTupZ (aCons (eVar 7) (aCons (eVar 3) aNil))))), (.sub (eVar 1) ((eTupZ (aCons (eVar 3) (aCons (eVar 7) aNil)))))]) ((eTupZ (aCons ((eBin bSub (eC (.int 0)) (eVar 9))) (aCons ((eBin bAdd (eVar 9) ((eCall fm__law_take (aCons (eVar 0) (aCons ((eBuilt fMax (aCons (eC (.int 1)) (aCons ((eBin bSub (eVar 6) (eVar 5))) aNil)))) aNil)))))) aNil))))) (sIf (tV (eBin bEq (eVar 8) (eC (.int 1)))) (sSetT (.tp [(.sub (eVar 1) ((eTupZ (aCons (eVar 7) (aCons (eVar 3) aNil))))), (.sub (eVar 1) ((eTupZ (aCons (eVar 3) (aCons (eVar 7) aNil)))))]) ((eTupZ (aCons ((eBin bSub (eC (.int 0)) (eVar 9))) (aCons ((eBin bAdd ((eBin bSub ((eBin bAdd (eVar 9) (eVar 6))) (eVar 5))) ((eCall fm__law_take (aCons (eVar 0) (aCons (eC (.int 3)) aNil)))))) aNil))))) (sIf (tV (eBin bEq (eVar 8) (eC (.int 2)))) (sSetT (.tp [(.sub (eVar 1) ((eTupZ (aCons (eVar 7) (aCons (eVar 3) aNil))))), (.sub (eVar 1) ((eTupZ (aCons (eVar 3) (aCons (eVar 7) aNil)))))]) ((eTupZ (aCons ((eCall fm__law_take (aCons (eVar 0) (aCons (eC (.int 4)) aNil)))) (aCons ((eCall fm__law_take (aCons (eVar 0) (aCons (eC (.int 4)) aNil)))) aNil))))) (sIf (tV (eBin bEq (eVar 8) (eC (.int 3)))) (sSeq (sSetT (.sub (eVar 1) ((eTupZ (aCons (eVar 3) (aCons (eVar 7) aNil))))) ((eBin bSub (eC (.int 0)) ((eCall fm__law_take (aCons (eVar 0) (aCons (eC (.int 3)) aNil)))))))
    (sSetT (.sub (eVar 1) ((eTupZ (aCons (eVar 7) (aCons (eVar 3) aNil))))) ((eBin bSub ((eCall fm__law_take (aCons (eVar 0) (aCons (eC (.int 3)) aNil)))) ((eBin bIx (eVar 1) ((eTupZ (aCons (eVar 3) (aCons (eVar 7) aNil)))))))))) (sIf (tV (eBin bEq (eVar 8) (eC (.int 4)))) (sSetT (.sub (eVar 1) ((eTupZ (aCons (eVar 3) (aCons (eVar 7) aNil))))) ((eCall fm__law_take (aCons (eVar 0) (aCons (eVar 6) aNil))))) sNil)))))))
def fm__law_couple : FM := fnR 4 10 m__law_couple
def m__law_net : SM := (sSeq (sSet (.nm 4) ((eBin bAdd (eVar 1) ((eCall fm__law_take (aCons (eVar 0) (aCons ((eBin bAdd ((eBin bSub (eVar 2) (eVar 1))) (eC (.int 1)))) aNil)))))))
    (sSeq (sSet (.nm 5) ((eCall fm__law_lasts (aCons (eVar 0) (aCons ((eCall fm__law_order (aCons (eVar 0) (aCons (eVar 4) aNil)))) (aCons ((eBuilt fMin (aCons (eVar 3) (aCons ((eBuilt fMax (aCons (eC (.int 1)) (aCons ((eBin bSub (eVar 4) (eC (.int 2)))) aNil)))) aNil)))) (aCons (eC (.int 4)) aNil)))))))
    (sSeq (sSet (.nm 6) (eLc [7] (.nm 7) ((iSeq (eVar 5))) (G.tYes) ((eBin bIx (eVar 7) (eC (.int 3))))))
    (sSeq (sSet (.tp [(.nm 8), (.nm 9)]) ((eTupZ (aCons ((eLc [13] (.nm 13) ((iRange2 (eC (.int 1)) (eVar 4))) ((tV (eBin bNotIn (eVar 13) (eVar 6)))) (eVar 13))) (aCons (eNewT) aNil)))))
    (sSeq (sFor (.nm 7) (iSeq (eVar 5)) (sIf (G.tAnd ((tTr (eVar 8))) ((tV (eBin bGt ((eCall fm__law_take (aCons (eVar 0) (aCons (eC (.int 6)) aNil)))) (eC (.int 0)))))) (sExpr ((eCall fm__law_couple (aCons (eVar 0) (aCons (eVar 9) (aCons (eVar 7) (aCons ((eBin bIx (eVar 8) ((eCall fm__law_take (aCons (eVar 0) (aCons ((eBuilt fLen (aCons (eVar 8) aNil))) aNil)))))) aNil))))))) sNil))
    (sSeq (sFor (.tp [(.nm 10), (.nm 11), (.nm 12)]) (iSeq ((eCall fm__law_bounds (aCons (eVar 0) (aCons (eVar 4) (aCons ((eBin bAdd (eC (.int 1)) ((eBin bDiv (eVar 4) (eC (.int 3)))))) (aCons ((eBin bSub ((eCall fm__law_take (aCons (eVar 0) (aCons (eC (.int 3)) aNil)))) (eC (.int 1)))) (aCons (eC (.int 12)) aNil)))))))) (sIf (G.tAnd ((tV (eBin bNotIn ((eTupZ (aCons (eVar 10) (aCons (eVar 11) aNil)))) (eVar 9)))) ((tV (eBin bGt ((eCall fm__law_take (aCons (eVar 0) (aCons (eC (.int 3)) aNil)))) (eC (.int 0)))))) (sSetT (.sub (eVar 9) ((eTupZ (aCons (eVar 10) (aCons (eVar 11) aNil))))) (eVar 12)) sNil))
    (sRet ((eTupZ (aCons (eVar 4) (aCons ((eBuilt fTuple (aCons ((eLc [14] (.nm 14) ((iSeq ((eBuilt fSorted (aCons (eVar 9) aNil))))) (G.tYes) ((eTupZ (aCons ((eBin bIx (eVar 14) (eC (.int 0)))) (aCons ((eBin bIx (eVar 14) (eC (.int 1)))) (aCons ((eBin bIx (eVar 9) (eVar 14))) aNil))))))) aNil))) (aCons (eVar 5) aNil))))))))))))
def fm__law_net : FM := fnR 4 15 m__law_net
def m_is_sized : SM := (sRet ((eAndV ((eUn (uIs .tuple) (eVar 0))) ((eChain bLe bLe (eVar 1) ((eBuilt fLen (aCons (eVar 0) aNil))) (eVar 2))))))
def fm_is_sized : FM := fnP 3 3 m_is_sized
def m_is_int : SM := (sRet ((eAndV ((eUn (uIs .int) (eVar 0))) ((eUn uNot ((eUn (uIs .bool) (eVar 0))))))))
def fm_is_int : FM := fnP 1 1 m_is_int
def m_is_within : SM := (sRet ((eAndV ((eCall fm_is_int (aCons (eVar 0) aNil))) ((eChain bLe bLe (eVar 1) (eVar 0) (eVar 2))))))
def fm_is_within : FM := fnP 3 3 m_is_within
def m_is_bound : SM := (sSeq (sIf (G.tOr ((tNot ((tTr ((eCall fm_is_sized (aCons (eVar 1) (aCons (eC (.int 3)) (aCons (eC (.int 3)) aNil))))))))) ((G.tOr ((tNot ((tTr ((eCall fm_is_within (aCons ((eBin bIx (eVar 1) (eC (.int 0)))) (aCons (eC (.int 0)) (aCons ((eBin bSub (eVar 0) (eC (.int 1)))) aNil))))))))) ((tNot ((tTr ((eCall fm_is_within (aCons ((eBin bIx (eVar 1) (eC (.int 1)))) (aCons (eC (.int 0)) (aCons ((eBin bSub (eVar 0) (eC (.int 1)))) aNil)))))))))))) (sRet (eC (.bl false))) sNil)
    (sRet ((eAndV ((eBin bNe ((eBin bIx (eVar 1) (eC (.int 0)))) ((eBin bIx (eVar 1) (eC (.int 1)))))) ((eCall fm_is_within (aCons ((eBin bIx (eVar 1) (eC (.int 2)))) (aCons ((eBin bSub (eC (.int 0)) (eC (.int (100000))))) (aCons (eC (.int (100000))) aNil)))))))))
def fm_is_bound : FM := fnP 2 2 m_is_bound
def m_are_bounds : SM := (sSeq (sIf (G.tOr ((tNot ((tTr ((eCall fm_is_sized (aCons (eVar 1) (aCons (eC (.int 0)) (aCons (eC (.int (60))) aNil))))))))) ((tNot ((tTr ((eBuilt fAll (aCons ((eLc [2] (.nm 2) ((iSeq (eVar 1))) (G.tYes) ((eCall fm_is_bound (aCons (eVar 0) (aCons (eVar 2) aNil)))))) aNil)))))))) (sRet (eC (.bl false))) sNil)
    (sRet ((eBuilt fAll (aCons ((eLc [2, 3] (.tp [(.nm 2), (.nm 3)]) ((iZipG (eVar 1) ((eSl (eVar 1) (oSo (eC (.int 1))) oNo)))) (G.tYes) ((eBin bLt ((eSl (eVar 2) oNo (oSo (eC (.int 2))))) ((eSl (eVar 3) oNo (oSo (eC (.int 2))))))))) aNil)))))
def fm_are_bounds : FM := fnP 2 4 m_are_bounds
def m_is_rising : SM := (sRet ((eBuilt fAll (aCons ((eLc [1, 2] (.tp [(.nm 1), (.nm 2)]) ((iZipG (eVar 0) ((eSl (eVar 0) (oSo (eC (.int 1))) oNo)))) (G.tYes) ((eBin bLt (eVar 1) (eVar 2))))) aNil))))
def fm_is_rising : FM := fnP 1 3 m_is_rising
def m_are_rooted : SM := (sSeq (sSet (.nm 1) (eDc [3] (.nm 3) ((iSeq (eVar 0))) (G.tYes) ((eBin bIx (eVar 3) (eC (.int 3)))) ((eBin bIx (eVar 3) (eC (.int 0))))))
    (sSeq (sIf (tV (eBin bNe ((eBuilt fLen (aCons (eVar 1) aNil))) ((eBuilt fLen (aCons (eVar 0) aNil))))) (sRet (eC (.bl false))) sNil)
    (sSeq (sForK (.nm 2) 1 (sSeq (sPar [4, 5] (aCons (eVar 2) (aCons (eC (.int 0)) aNil)))
    (sSeq (sWhile 1000 (G.tAnd ((tV (eBin bInD (eVar 4) (eVar 1)))) ((tV (eBin bLe (eVar 5) ((eBuilt fLen (aCons (eVar 0) aNil))))))) (sPar [4, 5] (aCons ((eBin bIx (eVar 1) (eVar 4))) (aCons ((eBin bAdd (eVar 5) (eC (.int 1)))) aNil))))
    (sIf (tV (eBin bInD (eVar 4) (eVar 1))) (sRet (eC (.bl false))) sNil))))
    (sRet (eC (.bl true))))))
def fm_are_rooted : FM := fnP 1 6 m_are_rooted
def m_is_last : SM := (sSeq (sIf (G.tOr ((tNot ((tTr ((eCall fm_is_sized (aCons (eVar 1) (aCons (eC (.int 4)) (aCons (eC (.int 4)) aNil))))))))) ((G.tOr ((tNot ((tTr ((eCall fm_is_within (aCons ((eBin bIx (eVar 1) (eC (.int 0)))) (aCons (eC (.int 0)) (aCons ((eBin bSub (eVar 0) (eC (.int 1)))) aNil))))))))) ((tNot ((tTr ((eCall fm_is_within (aCons ((eBin bIx (eVar 1) (eC (.int 3)))) (aCons (eC (.int 1)) (aCons ((eBin bSub (eVar 0) (eC (.int 1)))) aNil)))))))))))) (sRet (eC (.bl false))) sNil)
    (sSeq (sIf (G.tOr ((tNot ((tTr ((eCall fm_is_within (aCons ((eBin bIx (eVar 1) (eC (.int 1)))) (aCons (eC (.int 1)) (aCons (eC (.int (1000))) aNil))))))))) ((tNot ((tTr ((eCall fm_is_within (aCons ((eBin bIx (eVar 1) (eC (.int 2)))) (aCons (eC (.int 1)) (aCons (eC (.int (1000))) aNil)))))))))) (sRet (eC (.bl false))) sNil)
    (sRet ((eAndV ((eBin bLe ((eBin bIx (eVar 1) (eC (.int 1)))) ((eBin bIx (eVar 1) (eC (.int 2)))))) ((eBin bNe ((eBin bIx (eVar 1) (eC (.int 0)))) ((eBin bIx (eVar 1) (eC (.int 3)))))))))))
def fm_is_last : FM := fnP 2 2 m_is_last
def m_are_lasts : SM := (sSeq (sIf (G.tOr ((tNot ((tTr ((eCall fm_is_sized (aCons (eVar 1) (aCons (eC (.int 0)) (aCons (eC (.int (5))) aNil))))))))) ((tNot ((tTr ((eBuilt fAll (aCons ((eLc [2] (.nm 2) ((iSeq (eVar 1))) (G.tYes) ((eCall fm_is_last (aCons (eVar 0) (aCons (eVar 2) aNil)))))) aNil)))))))) (sRet (eC (.bl false))) sNil)
    (sRet ((eAndV ((eCall fm_is_rising (aCons (eVar 1) aNil))) ((eCall fm_are_rooted (aCons (eVar 1) aNil)))))))
def fm_are_lasts : FM := fnP 2 3 m_are_lasts
def m_is_net : SM := (sSeq (sIf (G.tOr ((tNot ((tTr ((eCall fm_is_sized (aCons (eVar 0) (aCons (eC (.int 3)) (aCons (eC (.int 3)) aNil))))))))) ((tNot ((tTr ((eCall fm_is_within (aCons ((eBin bIx (eVar 0) (eC (.int 0)))) (aCons (eC (.int 1)) (aCons (eC (.int (16))) aNil)))))))))) (sRet (eC (.bl false))) sNil)
    (sRet ((eAndV ((eCall fm_are_bounds (aCons ((eBin bIx (eVar 0) (eC (.int 0)))) (aCons ((eBin bIx (eVar 0) (eC (.int 1)))) aNil)))) ((eCall fm_are_lasts (aCons ((eBin bIx (eVar 0) (eC (.int 0)))) (aCons ((eBin bIx (eVar 0) (eC (.int 2)))) aNil))))))))
def fm_is_net : FM := fnP 1 1 m_is_net
def m_check_net : SM := (sIf (tNot ((tTr ((eCall fm_is_net (aCons (eVar 0) aNil)))))) (sRaise 1 aNil) sNil)
def fm_check_net : FM := fnP 1 1 m_check_net
def m_raw_first_place : SM := (sRet ((eTupZ (aCons (eC (.int 0)) (aCons ((eBin bAdd ((eTupZ (aCons (eC (.int 0)) aNil))) ((eBin bMul ((eTupZ (aCons (eC .non) aNil))) ((eBin bSub ((eBin bIx (eVar 0) (eC (.int 0)))) (eC (.int 1)))))))) aNil)))))
def fm_raw_first_place : FM := fnP 1 1 m_raw_first_place
def m_Live___init__ : SM := (sSeq (sExpr ((eCall fm_check_net (aCons (eVar 1) aNil))))
    (sSeq (sSetT (.fld (eVar 0) 2 8) (eVar 1))
    (sSetT (.fld (eVar 0) 2 9) ((eLstN (aCons ((eCall fm_raw_first_place (aCons (eVar 1) aNil))) aNil))))))
def fm_Live___init__ : FM := fnR 2 2 m_Live___init__
def m_Live_is_over : SM := (sRet ((eBin bNotIn (eC .non) ((eBin bIx ((eBin bIx ((eUn (uFld 2 9) (eVar 0))) ((eUn uNeg (eC (.int 1)))))) (eC (.int 1)))))))
def fm_Live_is_over : FM := fnR 1 1 m_Live_is_over
def m_raw_ends : SM := (sRet ((eBuilt fTuple (aCons ((eBuilt fSorted (aCons ((eLc [1] (.nm 1) ((iSeq ((eBin bIx (eVar 0) (eC (.int 2)))))) (G.tYes) ((eBin bIx (eVar 1) (eC (.int 3)))))) aNil))) aNil))))
def fm_raw_ends : FM := fnP 1 2 m_raw_ends
def m_raw_ours : SM := (sSeq (sSet (.nm 1) ((eCall fm_raw_ends (aCons (eVar 0) aNil))))
    (sRet ((eBuilt fTuple (aCons ((eLc [2] (.nm 2) ((iRange2 (eC (.int 1)) ((eBin bIx (eVar 0) (eC (.int 0)))))) ((tV (eBin bNotIn (eVar 2) (eVar 1)))) (eVar 2))) aNil)))))
def fm_raw_ours : FM := fnP 1 3 m_raw_ours
def m_raw_is_place : SM := (sSeq (sIf (G.tOr ((tNot ((tTr ((eCall fm_is_sized (aCons (eVar 1) (aCons (eC (.int 2)) (aCons (eC (.int 2)) aNil))))))))) ((G.tOr ((tNot ((tTr ((eCall fm_is_int (aCons ((eBin bIx (eVar 1) (eC (.int 0)))) aNil))))))) ((tV (eBin bLt ((eBin bIx (eVar 1) (eC (.int 0)))) (eC (.int 0)))))))) (sRet (eC (.bl false))) sNil)
    (sSeq (sSet (.tp [(.nm 2), (.nm 3)]) (eVar 1))
    (sSeq (sIf (G.tOr ((tNot ((tTr ((eCall fm_is_sized (aCons (eVar 3) (aCons ((eBin bIx (eVar 0) (eC (.int 0)))) (aCons ((eBin bIx (eVar 0) (eC (.int 0)))) aNil))))))))) ((tNot ((tTr ((eCall fm_is_within (aCons ((eBin bIx (eVar 3) (eC (.int 0)))) (aCons (eC (.int 0)) (aCons (eC (.int 0)) aNil)))))))))) (sRet (eC (.bl false))) sNil)
    (sSeq (sIf (tNot ((tTr ((eBuilt fAll (aCons ((eLc [9] (.nm 9) ((iSeq (eVar 3))) (G.tYes) ((eOrV ((eUn uIsN (eVar 9))) ((eCall fm_is_within (aCons (eVar 9) (aCons (eC (.int 0)) (aCons (eVar 2) aNil))))))))) aNil)))))) (sRet (eC (.bl false))) sNil)
    (sSeq (sIf (tTr ((eBuilt fAny (aCons ((eLc [8] (.nm 8) ((iSeq ((eCall fm_raw_ours (aCons (eVar 0) aNil))))) (G.tYes) ((eBin bEq ((eBin bIx (eVar 3) (eVar 8))) (eVar 2))))) aNil)))) (sRet (eC (.bl false))) sNil)
    (sSeq (sFor (.tp [(.nm 4), (.nm 5), (.nm 6), (.nm 7)]) (iSeq ((eBin bIx (eVar 0) (eC (.int 2))))) (sSeq (sIf (G.tAnd ((tV (eUn uNotN ((eBin bIx (eVar 3) (eVar 7)))))) ((G.tOr ((tV (eUn uIsN ((eBin bIx (eVar 3) (eVar 4)))))) ((tNot ((tV (eChain bLe bLe (eVar 5) ((eBin bSub ((eBin bIx (eVar 3) (eVar 7))) ((eBin bIx (eVar 3) (eVar 4))))) (eVar 6))))))))) (sRet (eC (.bl false))) sNil)
    (sIf (G.tAnd ((tV (eUn uIsN ((eBin bIx (eVar 3) (eVar 7)))))) ((G.tAnd ((tV (eUn uNotN ((eBin bIx (eVar 3) (eVar 4)))))) ((tV (eBin bGe ((eBin bSub (eVar 2) ((eBin bIx (eVar 3) (eVar 4))))) (eVar 6))))))) (sRet (eC (.bl false))) sNil)))
    (sRet (eC (.bl true)))))))))
def fm_raw_is_place : FM := fnP 2 10 m_raw_is_place
def m_check_place : SM := (sSeq (sExpr ((eCall fm_check_net (aCons (eVar 0) aNil))))
    (sIf (tNot ((tTr ((eCall fm_raw_is_place (aCons (eVar 0) (aCons (eVar 1) aNil))))))) (sRaise 2 aNil) sNil))
def fm_check_place : FM := fnP 2 2 m_check_place
def m_is_lot : SM := (sSeq (sIf (G.tOr ((tNot ((tTr ((eUn (uIs .tuple) (eVar 0))))))) ((tNot ((tTr ((eBuilt fAll (aCons ((eLc [2] (.nm 2) ((iSeq (eVar 0))) (G.tYes) ((eCall fm_is_within (aCons (eVar 2) (aCons (eC (.int 0)) (aCons ((eBin bSub (eVar 1) (eC (.int 1)))) aNil))))))) aNil)))))))) (sRet (eC (.bl false))) sNil)
    (sRet ((eCall fm_is_rising (aCons (eVar 0) aNil)))))
def fm_is_lot : FM := fnP 2 3 m_is_lot
def m_raw_left : SM := (sRet ((eLc [2] (.nm 2) ((iSeq ((eCall fm_raw_ours (aCons (eVar 0) aNil))))) ((tV (eUn uIsN ((eBin bIx (eVar 1) (eVar 2)))))) (eVar 2))))
def fm_raw_left : FM := fnP 2 3 m_raw_left
def m_check_lot : SM := (sIf (G.tOr ((tNot ((tTr ((eCall fm_is_lot (aCons (eVar 2) (aCons ((eBin bIx (eVar 0) (eC (.int 0)))) aNil)))))))) ((tNot ((tTr ((eBuilt fAll (aCons ((eLc [3] (.nm 3) ((iSeq (eVar 2))) (G.tYes) ((eBin bInD (eVar 3) ((eCall fm_raw_left (aCons (eVar 0) (aCons (eVar 1) aNil)))))))) aNil)))))))) (sRaise 3 aNil) sNil)
def fm_check_lot : FM := fnP 3 4 m_check_lot
def m_lots_from : SM := (sSeq (sSet (.nm 1) ((eLstZ (aCons ((eTupZ aNil)) aNil))))
    (sSeq (sFor (.nm 2) (iSeq (eVar 0)) (sSet (.nm 1) ((eBin bAdd (eVar 1) ((eLc [3] (.nm 3) ((iSeq (eVar 1))) (G.tYes) ((eBin bAdd (eVar 3) ((eTupZ (aCons (eVar 2) aNil)))))))))))
    (sRet ((eBuilt fSorted (aCons (eVar 1) aNil))))))
def fm_lots_from : FM := fnP 1 4 m_lots_from
def m_ends_at : SM := (sSeq (sSet (.tp [(.nm 3), (.nm 4)]) ((eTupZ (aCons ((eLstN aNil)) (aCons ((eLstN aNil)) aNil)))))
    (sSeq (sFor (.tp [(.nm 5), (.nm 6), (.nm 7), (.nm 8)]) (iSeq ((eBin bIx (eVar 0) (eC (.int 2))))) (sIf (G.tAnd ((tV (eUn uIsN ((eBin bIx (eVar 1) (eVar 8)))))) ((G.tAnd ((tV (eUn uNotN ((eBin bIx (eVar 1) (eVar 5)))))) ((tV (eChain bLe bLe (eVar 6) ((eBin bSub (eVar 2) ((eBin bIx (eVar 1) (eVar 5))))) (eVar 7))))))) (sIf (tV (eBin bEq ((eBin bSub (eVar 2) ((eBin bIx (eVar 1) (eVar 5))))) (eVar 7))) (sExpr ((eAppend (eVar 4) (eVar 8)))) (sExpr ((eAppend (eVar 3) (eVar 8))))) sNil))
    (sRet ((eBuilt fSorted (aCons ((eLc [9] (.nm 9) ((iSeq ((eCall fm_lots_from (aCons ((eBuilt fSorted (aCons (eVar 3) aNil))) aNil))))) (G.tYes) ((eBuilt fTuple (aCons ((eBuilt fSorted (aCons ((eBin bAdd ((eBuilt fList (aCons (eVar 9) aNil))) (eVar 4))) aNil))) aNil))))) aNil))))))
def fm_ends_at : FM := fnP 3 10 m_ends_at
def m_with_come : SM := (sRet ((eBuilt fTuple (aCons ((eLc [3, 4] (.tp [(.nm 3), (.nm 4)]) ((iEnum (eVar 0))) (G.tYes) ((eIf ((tV (eBin bInD (eVar 3) (eVar 1)))) (eVar 2) (eVar 4))))) aNil))))
def fm_with_come : FM := fnP 3 5 m_with_come
def m_raw_ends_next : SM := (sSeq (sSet (.tp [(.nm 3), (.nm 4)]) (eVar 1))
    (sRet ((eBuilt fTuple (aCons ((eCall fm_ends_at (aCons (eVar 0) (aCons ((eCall fm_with_come (aCons (eVar 4) (aCons (eVar 2) (aCons (eVar 3) aNil))))) (aCons ((eBin bAdd (eVar 3) (eC (.int 1)))) aNil))))) aNil)))))
def fm_raw_ends_next : FM := fnP 3 5 m_raw_ends_next
def m_ends_next : SM := (sSeq (sExpr ((eCall fm_check_place (aCons (eVar 0) (aCons (eVar 1) aNil)))))
    (sSeq (sExpr ((eCall fm_check_lot (aCons (eVar 0) (aCons ((eBin bIx (eVar 1) (eC (.int 1)))) (aCons (eVar 2) aNil))))))
    (sRet ((eCall fm_raw_ends_next (aCons (eVar 0) (aCons (eVar 1) (aCons (eVar 2) aNil))))))))
def fm_ends_next : FM := fnP 3 3 m_ends_next
def m_raw_place_behind : SM := (sSeq (sSet (.tp [(.nm 3), (.nm 4)]) (eVar 0))
    (sRet ((eTupZ (aCons ((eBin bAdd (eVar 3) (eC (.int 1)))) (aCons ((eCall fm_with_come (aCons ((eCall fm_with_come (aCons (eVar 4) (aCons (eVar 1) (aCons (eVar 3) aNil))))) (aCons (eVar 2) (aCons ((eBin bAdd (eVar 3) (eC (.int 1)))) aNil))))) aNil))))))
def fm_raw_place_behind : FM := fnP 3 5 m_raw_place_behind
def m_raw_is_lot : SM := (sRet ((eCall fm_is_lot (aCons (eVar 1) (aCons ((eBin bIx (eVar 0) (eC (.int 0)))) aNil)))))
def fm_raw_is_lot : FM := fnP 2 2 m_raw_is_lot
def m_Live_go : SM := (sSeq (sSet (.nm 2) ((eBin bIx ((eUn (uFld 2 9) (eVar 0))) ((eUn uNeg (eC (.int 1)))))))
    (sSeq (sIf (G.tOr ((tNot ((tTr ((eCall fm_raw_is_lot (aCons ((eUn (uFld 2 8) (eVar 0))) (aCons (eVar 1) aNil)))))))) ((tV (eBin bNotIn (eVar 1) ((eCall fm_raw_ends_next (aCons ((eUn (uFld 2 8) (eVar 0))) (aCons (eVar 2) (aCons ((eTupZ aNil)) aNil))))))))) (sRaise 3 aNil) sNil)
    (sExpr ((eAppend ((eUn (uFld 2 9) (eVar 0))) ((eCall fm_raw_place_behind (aCons (eVar 2) (aCons ((eTupZ aNil)) (aCons (eVar 1) aNil))))))))))
def fm_Live_go : FM := fnR 2 3 m_Live_go
def m_Audit___init__ : SM := (sSeq (sSetT (.tp [(.fld (eVar 0) 1 7), (.fld (eVar 0) 1 6)]) ((eTupZ (aCons (eVar 1) (aCons (eC (.int 0)) aNil)))))
    (sSetT (.fld (eVar 0) 1 5) ((eBinT bAdd ((eLstZ (aCons (eC (.int 0)) aNil))) ((eBin bMul ((eLstZ (aCons (eC .non) aNil))) ((eBin bSub ((eBin bIx (eVar 1) (eC (.int 0)))) (eC (.int 1))))))))))
def fm_Audit___init__ : FM := fnR 2 2 m_Audit___init__
def m_Audit_is_over : SM := (sRet ((eBin bNotIn (eC .non) ((eUn (uFld 1 5) (eVar 0))))))
def fm_Audit_is_over : FM := fnR 1 1 m_Audit_is_over
def m_raw_all_bounds : SM := (sSeq (sSet (.nm 1) ((eBuilt fList (aCons ((eBin bIx (eVar 0) (eC (.int 1)))) aNil))))
    (sSeq (sFor (.tp [(.nm 2), (.nm 3), (.nm 4), (.nm 5)]) (iSeq ((eBin bIx (eVar 0) (eC (.int 2))))) (sSet (.nm 1) ((eBin bAdd (eVar 1) ((eLstZ (aCons ((eTupZ (aCons (eVar 2) (aCons (eVar 5) (aCons (eVar 4) aNil))))) (aCons ((eTupZ (aCons (eVar 5) (aCons (eVar 2) (aCons ((eBin bSub (eC (.int 0)) (eVar 3))) aNil))))) aNil))))))))
    (sRet ((eBuilt fTuple (aCons ((eBin bAdd (eVar 1) ((eLc [6] (.nm 6) ((iRange2 (eC (.int 1)) ((eBin bIx (eVar 0) (eC (.int 0)))))) (G.tYes) ((eTupZ (aCons (eVar 6) (aCons (eC (.int 0)) (aCons (eC (.int 0)) aNil))))))))) aNil))))))
def fm_raw_all_bounds : FM := fnP 1 7 m_raw_all_bounds
def m_raw_broken : SM := (sSeq (sSet (.nm 2) ((eLstN aNil)))
    (sSeq (sFor (.tp [(.nm 3), (.tp [(.nm 4), (.nm 5), (.nm 6)])]) (iEnum ((eCall fm_raw_all_bounds (aCons (eVar 0) aNil)))) (sIf (G.tAnd ((tV (eUn uNotN ((eBin bIx (eVar 1) (eVar 4)))))) ((G.tAnd ((tV (eUn uNotN ((eBin bIx (eVar 1) (eVar 5)))))) ((tV (eBin bGt ((eBin bSub ((eBin bIx (eVar 1) (eVar 5))) ((eBin bIx (eVar 1) (eVar 4))))) (eVar 6))))))) (sExpr ((eAppend (eVar 2) (eVar 3)))) sNil))
    (sRet ((eBuilt fTuple (aCons (eVar 2) aNil))))))
def fm_raw_broken : FM := fnR 2 7 m_raw_broken
def m_Audit_left : SM := (sRet ((eLc [2] (.nm 2) ((iSeq (eVar 1))) ((tV (eUn uIsN ((eBin bIx ((eUn (uFld 1 5) (eVar 0))) (eVar 2)))))) (eVar 2))))
def fm_Audit_left : FM := fnR 2 3 m_Audit_left
def m_Audit_can_end : SM := (sSeq (sSet (.tp [(.nm 3), (.nm 4)]) ((eTupZ (aCons ((eLstN aNil)) (aCons ((eLstN aNil)) aNil)))))
    (sSeq (sFor (.tp [(.nm 5), (.nm 6), (.nm 7), (.nm 8)]) (iSeq ((eBin bIx ((eUn (uFld 1 7) (eVar 0))) (eC (.int 2))))) (sIf (G.tAnd ((tV (eUn uIsN ((eBin bIx ((eUn (uFld 1 5) (eVar 0))) (eVar 8)))))) ((G.tAnd ((tV (eUn uNotN ((eBin bIx ((eUn (uFld 1 5) (eVar 0))) (eVar 5)))))) ((tV (eBin bGe ((eBin bSub (eVar 1) ((eBin bIx ((eUn (uFld 1 5) (eVar 0))) (eVar 5))))) (eVar 6))))))) (sSeq (sExpr ((eAppend (eVar 3) (eVar 8))))
    (sExpr ((eExtend (eVar 4) ((eIf ((tV (eBin bGe ((eBin bSub (eVar 1) ((eBin bIx ((eUn (uFld 1 5) (eVar 0))) (eVar 5))))) (eVar 7)))) ((eLstZ (aCons (eVar 8) aNil))) ((eLstZ aNil)))))))) sNil))
    (sRet ((eAndV ((eBuilt fAll (aCons ((eLc [9] (.nm 9) ((iSeq (eVar 2))) (G.tYes) ((eBin bInD (eVar 9) (eVar 3))))) aNil))) ((eBuilt fAll (aCons ((eLcS [9] (.nm 9) (eVar 4) (G.tYes) ((eBin bInD (eVar 9) (eVar 2))))) aNil))))))))
def fm_Audit_can_end : FM := fnR 3 10 m_Audit_can_end
def m_Audit_takes : SM := (sSeq (sSet (.nm 3) ((eBin bIx ((eUn (uFld 1 7) (eVar 0))) (eC (.int 0)))))
    (sSeq (sIf (G.tOr ((tTr ((eMeth [] 1 fm_Audit_is_over (eVar 0) aNil)))) ((G.tOr ((tNot ((tTr ((eCall fm_is_sized (aCons (eVar 1) (aCons (eC (.int 3)) (aCons (eC (.int 3)) aNil))))))))) ((tNot ((tTr ((eCall fm_is_within (aCons ((eBin bIx (eVar 1) (eC (.int 0)))) (aCons (eVar 2) (aCons (eVar 2) aNil)))))))))))) (sRet (eC (.bl false))) sNil)
    (sSeq (sIf (G.tOr ((tNot ((tTr ((eCall fm_is_lot (aCons ((eBin bIx (eVar 1) (eC (.int 1)))) (aCons (eVar 3) aNil)))))))) ((tNot ((tTr ((eCall fm_is_lot (aCons ((eBin bIx (eVar 1) (eC (.int 2)))) (aCons (eVar 3) aNil))))))))) (sRet (eC (.bl false))) sNil)
    (sSeq (sSet (.tp [(.nm 5), (.nm 6)]) ((eTupZ (aCons ((eMeth [] 1 fm_Audit_left (eVar 0) (aCons ((eCall fm_raw_ends (aCons ((eUn (uFld 1 7) (eVar 0))) aNil))) aNil))) (aCons ((eMeth [] 1 fm_Audit_left (eVar 0) (aCons ((eCall fm_raw_ours (aCons ((eUn (uFld 1 7) (eVar 0))) aNil))) aNil))) aNil)))))
    (sSeq (sIf (G.tOr ((tNot ((tTr ((eBuilt fAll (aCons ((eLc [7] (.nm 7) ((iSeq ((eBin bIx (eVar 1) (eC (.int 1)))))) (G.tYes) ((eBin bInD (eVar 7) (eVar 5))))) aNil))))))) ((tNot ((tTr ((eBuilt fAll (aCons ((eLc [4] (.nm 4) ((iSeq ((eBin bIx (eVar 1) (eC (.int 2)))))) (G.tYes) ((eBin bInD (eVar 4) (eVar 6))))) aNil)))))))) (sRet (eC (.bl false))) sNil)
    (sSeq (sIf (tNot ((tTr ((eMeth [] 1 fm_Audit_can_end (eVar 0) (aCons (eVar 2) (aCons ((eBin bIx (eVar 1) (eC (.int 1)))) aNil))))))) (sRet (eC (.bl false))) sNil)
    (sSeq (sSetT (.fld (eVar 0) 1 6) (eVar 2))
    (sSeq (sFor (.nm 4) (iSeq ((eBin bAdd ((eBin bIx (eVar 1) (eC (.int 1)))) ((eBin bIx (eVar 1) (eC (.int 2))))))) (sSetT (.sub ((eUn (uFld 1 5) (eVar 0))) (eVar 4)) (eVar 2)))
    (sRet (eC (.bl true)))))))))))
def fm_Audit_takes : FM := fnR 3 8 m_Audit_takes
def m_raw_audited : SM := (sSeq (sSet (.nm 2) ((eMake 1 fm_Audit___init__ (aCons (eVar 0) aNil))))
    (sSeq (sIf (tNot ((tTr ((eUn (uIs .tuple) (eVar 1)))))) (sRet ((eTupZ (aCons ((eTupZ (aCons (eC (.str [119, 114, 111, 110, 103])) (aCons (eC (.int 0)) aNil)))) (aCons (eVar 2) aNil))))) sNil)
    (sSeq (sFor (.tp [(.nm 3), (.nm 4)]) (iEnum (eVar 1)) (sSeq (sIf (tNot ((tTr ((eMeth [] 1 fm_Audit_takes (eVar 2) (aCons (eVar 4) (aCons (eVar 3) aNil))))))) (sRet ((eTupZ (aCons ((eTupZ (aCons (eC (.str [119, 114, 111, 110, 103])) (aCons (eVar 3) aNil)))) (aCons (eVar 2) aNil))))) sNil)
    (sSeq (sSet (.nm 5) ((eCall fm_raw_broken (aCons (eVar 0) (aCons ((eUn (uFld 1 5) (eVar 2))) aNil)))))
    (sIf (tV (eBin bGt ((eBuilt fLen (aCons (eVar 5) aNil))) (eC (.int 0)))) (sRet ((eTupZ (aCons ((eTupZ (aCons (eC (.str [98, 114, 111, 107, 101, 110])) (aCons (eVar 3) (aCons ((eBin bIx (eVar 5) (eC (.int 0)))) aNil))))) (aCons (eVar 2) aNil))))) sNil))))
    (sSeq (sIf (tTr ((eMeth [] 1 fm_Audit_is_over (eVar 2) aNil))) (sRet ((eTupZ (aCons ((eTupZ (aCons (eC (.str [111, 118, 101, 114])) (aCons ((eBuilt fTuple (aCons ((eUn (uFld 1 5) (eVar 2))) aNil))) aNil)))) (aCons (eVar 2) aNil))))) sNil)
    (sRet ((eTupZ (aCons ((eTupZ (aCons (eC (.str [114, 105, 103, 104, 116])) (aCons ((eBuilt fTuple (aCons ((eUn (uFld 1 5) (eVar 2))) aNil))) aNil)))) (aCons (eVar 2) aNil)))))))))
def fm_raw_audited : FM := fnR 2 6 m_raw_audited
def m_course_seen : SM := (sSeq (sExpr ((eCall fm_check_net (aCons (eVar 0) aNil))))
    (sSeq (sSet (.tp [(.nm 3), (.nm 4)]) ((eCall fm_raw_audited (aCons (eVar 0) (aCons (eVar 1) aNil)))))
    (sSeq (sIf (tV (eBin bNotIn ((eBin bIx (eVar 3) (eC (.int 0)))) ((eTupZ (aCons (eC (.str [111, 118, 101, 114])) (aCons (eC (.str [114, 105, 103, 104, 116])) aNil)))))) (sRaise 6 aNil) sNil)
    (sSeq (sSet (.nm 2) ((eLstN aNil)))
    (sSeq (sFor (.tp [(.nm 5), (.nm 6), (.nm 7), (.nm 8)]) (iSeq ((eBin bIx (eVar 0) (eC (.int 2))))) (sSeq (sPar [9, 10] (aCons ((eBin bIx ((eUn (uFld 1 5) (eVar 4))) (eVar 5))) (aCons ((eBin bIx ((eUn (uFld 1 5) (eVar 4))) (eVar 8))) aNil)))
    (sIf (tV (eUn uNotN (eVar 10))) (sExpr ((eAppend (eVar 2) ((eTupZ (aCons ((eBin bSub (eVar 10) (eVar 9))) (aCons ((eBin bSub (eVar 10) (eVar 9))) aNil))))))) (sExpr ((eAppend (eVar 2) ((eTupZ (aCons ((eIf ((tV (eUn uIsN (eVar 9)))) (eVar 6) ((eBuilt fMax (aCons (eVar 6) (aCons ((eBin bSub ((eBin bAdd ((eUn (uFld 1 6) (eVar 4))) (eC (.int 1)))) (eVar 9))) aNil)))))) (aCons (eVar 7) aNil))))))))))
    (sRet ((eBuilt fTuple (aCons (eVar 2) aNil)))))))))
def fm_course_seen : FM := fnP 2 11 m_course_seen
def m__law_has_none : SM := (sSeq (sTryAs 2 (cov_PlanError) (sExpr ((eCall fm_course_seen (aCons (eVar 0) (aCons (eVar 1) aNil))))) (fun c => (sRet ((eIsErr 2 (xs c 6))))))
    (sRet (eC (.bl false))))
def fm__law_has_none : FM := fnR 2 3 m__law_has_none
def m_Live_minute : SM := (sRet ((eBin bIx ((eBin bIx ((eUn (uFld 2 9) (eVar 0))) ((eUn uNeg (eC (.int 1)))))) (eC (.int 0)))))
def fm_Live_minute : FM := fnR 1 1 m_Live_minute
def m_Live_times : SM := (sRet ((eBin bIx ((eBin bIx ((eUn (uFld 2 9) (eVar 0))) ((eUn uNeg (eC (.int 1)))))) (eC (.int 1)))))
def fm_Live_times : FM := fnR 1 1 m_Live_times
def m_Live_come : SM := (sSeq (sSet (.tp [(.nm 2), (.nm 3)]) ((eBin bIx ((eUn (uFld 2 9) (eVar 0))) ((eUn uNeg (eC (.int 1)))))))
    (sSeq (sIf (G.tOr ((tNot ((tTr ((eCall fm_is_int (aCons (eVar 1) aNil))))))) ((tV (eBin bNotIn (eVar 1) ((eCall fm_raw_left (aCons ((eUn (uFld 2 8) (eVar 0))) (aCons (eVar 3) aNil)))))))) (sRaise 5 aNil) sNil)
    (sExpr ((eAppend ((eUn (uFld 2 9) (eVar 0))) ((eTupZ (aCons (eVar 2) (aCons ((eCall fm_with_come (aCons (eVar 3) (aCons ((eTupZ (aCons (eVar 1) aNil))) (aCons (eVar 2) aNil))))) aNil)))))))))
def fm_Live_come : FM := fnR 2 4 m_Live_come
def m__law_left : SM := (sSeq (sSet (.nm 2) (eLc [3] (.nm 3) ((iSeq ((eBin bIx (eVar 0) (eC (.int 2)))))) (G.tYes) ((eBin bIx (eVar 3) (eC (.int 3))))))
    (sRet ((eLc [4] (.nm 4) ((iRange2 (eC (.int 1)) ((eBin bIx (eVar 0) (eC (.int 0)))))) ((G.tAnd ((tV (eBin bNotIn (eVar 4) (eVar 2)))) ((tV (eUn uIsN ((eBin bIx (eVar 1) (eVar 4)))))))) (eVar 4)))))
def fm__law_left : FM := fnR 2 5 m__law_left
def m__law_all : SM := (sSeq (sSet (.nm 1) ((eListT ((eBin bIx (eVar 0) (eC (.int 1)))))))
    (sSeq (sFor (.tp [(.nm 2), (.nm 3), (.nm 4), (.nm 5)]) (iSeq ((eBin bIx (eVar 0) (eC (.int 2))))) (sSeq (sExpr ((eAppend (eVar 1) ((eTupZ (aCons (eVar 2) (aCons (eVar 5) (aCons (eVar 4) aNil))))))))
    (sExpr ((eAppend (eVar 1) ((eTupZ (aCons (eVar 5) (aCons (eVar 2) (aCons ((eBin bSub (eC (.int 0)) (eVar 3))) aNil))))))))))
    (sRet ((eBin bAdd (eVar 1) ((eLc [6] (.nm 6) ((iRange2 (eC (.int 1)) ((eBin bIx (eVar 0) (eC (.int 0)))))) (G.tYes) ((eTupZ (aCons (eVar 6) (aCons (eC (.int 0)) (aCons (eC (.int 0)) aNil))))))))))))
def fm__law_all : FM := fnP 1 7 m__law_all
def m__law_lost : SM := (sSeq (sPar [3, 4] (aCons ((eCall fm__law_all (aCons (eVar 0) aNil))) (aCons ((eLstN aNil)) aNil)))
    (sSeq (sFor (.nm 2) (iRange1 ((eBuilt fLen (aCons (eVar 3) aNil)))) (sSeq (sSet (.tp [(.nm 5), (.nm 6), (.nm 7)]) ((eBin bIx (eVar 3) (eVar 2))))
    (sIf (G.tAnd ((tV (eUn uNotN ((eBin bIx (eVar 1) (eVar 5)))))) ((G.tAnd ((tV (eUn uNotN ((eBin bIx (eVar 1) (eVar 6)))))) ((tV (eBin bGt ((eBin bSub ((eBin bIx (eVar 1) (eVar 6))) ((eBin bIx (eVar 1) (eVar 5))))) (eVar 7))))))) (sExpr ((eAppend (eVar 4) (eVar 2)))) sNil)))
    (sRet (eVar 4))))
def fm__law_lost : FM := fnR 2 8 m__law_lost
def m__law_ends_next : SM := (sSeq (sSet (.tp [(.nm 3), (.nm 4)]) ((eTupZ (aCons ((eLstN aNil)) (aCons ((eLstZ (aCons ((eTupZ aNil)) aNil))) aNil)))))
    (sSeq (sFor (.tp [(.nm 5), (.nm 6), (.nm 7), (.nm 8)]) (iSeq ((eBin bIx (eVar 0) (eC (.int 2))))) (sIf (G.tAnd ((tV (eUn uIsN ((eBin bIx (eVar 2) (eVar 8)))))) ((G.tAnd ((tV (eUn uNotN ((eBin bIx (eVar 2) (eVar 5)))))) ((tV (eChain bLe bLe (eVar 6) ((eBin bSub (eVar 1) ((eBin bIx (eVar 2) (eVar 5))))) (eVar 7))))))) (sIf (tV (eBin bEq ((eBin bSub (eVar 1) ((eBin bIx (eVar 2) (eVar 5))))) (eVar 7))) (sExpr ((eAppend (eVar 3) (eVar 8)))) (sSet (.nm 4) ((eBin bAdd (eVar 4) ((eLc [9] (.nm 9) ((iSeq (eVar 4))) (G.tYes) ((eBin bAdd (eVar 9) ((eTupZ (aCons (eVar 8) aNil))))))))))) sNil))
    (sRet ((eBuilt fTuple (aCons ((eBuilt fSorted (aCons ((eLc [9] (.nm 9) ((iSeq (eVar 4))) (G.tYes) ((eBuilt fTuple (aCons ((eBuilt fSorted (aCons ((eBin bAdd (eVar 9) ((eBuilt fTuple (aCons (eVar 3) aNil))))) aNil))) aNil))))) aNil))) aNil))))))
def fm__law_ends_next : FM := fnP 3 10 m__law_ends_next
def m__law_audited : SM := (sSeq (sSet (.nm 2) ((eBinT bAdd ((eLstZ (aCons (eC (.int 0)) aNil))) ((eBin bMul ((eLstZ (aCons (eC .non) aNil))) ((eBin bSub ((eBin bIx (eVar 0) (eC (.int 0)))) (eC (.int 1)))))))))
    (sSeq (sFor (.nm 3) (iRange1 ((eBuilt fLen (aCons (eVar 1) aNil)))) (sSeq (sSet (.tp [(.nm 7), (.nm 8), (.nm 9)]) ((eBin bIx (eVar 1) (eVar 3))))
    (sSeq (sSet (.nm 4) ((eCall fm__law_left (aCons (eVar 0) (aCons (eVar 2) aNil)))))
    (sSeq (sIf (G.tOr ((tV (eBin bNotIn (eC .non) (eVar 2)))) ((G.tOr ((tV (eBin bNe (eVar 7) (eVar 3)))) ((tNot ((tTr ((eBuilt fAll (aCons ((eLc [5] (.nm 5) ((iSeq (eVar 9))) (G.tYes) ((eBin bInD (eVar 5) (eVar 4))))) aNil)))))))))) (sRet ((eTupZ (aCons (eC (.str [119, 114, 111, 110, 103])) (aCons (eVar 3) aNil))))) sNil)
    (sSeq (sIf (G.tOr ((G.tAnd ((tV (eBin bEq (eVar 3) (eC (.int 0))))) ((tV (eBin bNe (eVar 8) ((eTupZ aNil))))))) ((G.tAnd ((tV (eBin bGt (eVar 3) (eC (.int 0))))) ((tV (eBin bNotIn (eVar 8) ((eCall fm__law_ends_next (aCons (eVar 0) (aCons (eVar 3) (aCons ((eBuilt fTuple (aCons (eVar 2) aNil))) aNil))))))))))) (sRet ((eTupZ (aCons (eC (.str [119, 114, 111, 110, 103])) (aCons (eVar 3) aNil))))) sNil)
    (sSeq (sFor (.nm 5) (iSeq ((eBin bAdd (eVar 8) (eVar 9)))) (sSetT (.sub (eVar 2) (eVar 5)) (eVar 3)))
    (sSeq (sSet (.nm 6) ((eCall fm__law_lost (aCons (eVar 0) (aCons (eVar 2) aNil)))))
    (sIf (tTr (eVar 6)) (sRet ((eTupZ (aCons (eC (.str [98, 114, 111, 107, 101, 110])) (aCons (eVar 3) (aCons ((eBin bIx (eVar 6) (eC (.int 0)))) aNil)))))) sNil))))))))
    (sRet ((eTupZ (aCons ((eIf ((tV (eBin bInD (eC .non) (eVar 2)))) (eC (.str [114, 105, 103, 104, 116])) (eC (.str [111, 118, 101, 114])))) (aCons ((eBuilt fTuple (aCons (eVar 2) aNil))) aNil)))))))
def fm__law_audited : FM := fnP 2 10 m__law_audited
def m_audited : SM := (sSeq (sExpr ((eCall fm_check_net (aCons (eVar 0) aNil))))
    (sRet ((eBin bIx ((eCall fm_raw_audited (aCons (eVar 0) (aCons (eVar 1) aNil)))) (eC (.int 0))))))
def fm_audited : FM := fnP 2 2 m_audited
def m__law_seen : SM := (sSeq (sSet (.nm 3) ((eLstN aNil)))
    (sSeq (sFor (.tp [(.nm 4), (.nm 5), (.nm 6), (.nm 7)]) (iSeq ((eBin bIx (eVar 0) (eC (.int 2))))) (sIf (tV (eUn uNotN ((eBin bIx (eVar 1) (eVar 7))))) (sExpr ((eAppend (eVar 3) ((eTupZ (aCons ((eBin bSub ((eBin bIx (eVar 1) (eVar 7))) ((eBin bIx (eVar 1) (eVar 4))))) (aCons ((eBin bSub ((eBin bIx (eVar 1) (eVar 7))) ((eBin bIx (eVar 1) (eVar 4))))) aNil))))))) (sExpr ((eAppend (eVar 3) ((eTupZ (aCons ((eIf ((tV (eUn uIsN ((eBin bIx (eVar 1) (eVar 4)))))) (eVar 5) ((eBuilt fMax (aCons (eVar 5) (aCons ((eBin bSub ((eBin bAdd (eVar 2) (eC (.int 1)))) ((eBin bIx (eVar 1) (eVar 4))))) aNil)))))) (aCons (eVar 6) aNil)))))))))
    (sRet ((eBuilt fTuple (aCons (eVar 3) aNil))))))
def fm__law_seen : FM := fnP 3 8 m__law_seen
def m_is_journal : SM := (sSeq (sExpr ((eCall fm_check_net (aCons (eVar 0) aNil))))
    (sRet ((eBin bInD ((eBin bIx ((eBin bIx ((eCall fm_raw_audited (aCons (eVar 0) (aCons (eVar 1) aNil)))) (eC (.int 0)))) (eC (.int 0)))) ((eTupZ (aCons (eC (.str [111, 118, 101, 114])) (aCons (eC (.str [114, 105, 103, 104, 116])) aNil))))))))
def fm_is_journal : FM := fnP 2 2 m_is_journal
def m__law_is_minute_right : SM := (sSeq (sPar [3, 4] (aCons ((eCall fm__law_audited (aCons (eVar 0) (aCons (eVar 2) aNil)))) (aCons ((eCall fm_audited (aCons (eVar 0) (aCons (eVar 2) aNil)))) aNil)))
    (sSeq (sIf (G.tOr ((tV (eBin bNe (eVar 4) (eVar 3)))) ((tV (eBin bNe ((eCall fm_is_journal (aCons (eVar 0) (aCons (eVar 2) aNil)))) ((eBin bInD ((eBin bIx (eVar 3) (eC (.int 0)))) ((eTupZ (aCons (eC (.str [114, 105, 103, 104, 116])) (aCons (eC (.str [111, 118, 101, 114])) aNil)))))))))) (sRet (eC (.bl false))) sNil)
    (sSeq (sIf (tV (eBin bInD ((eBin bIx (eVar 3) (eC (.int 0)))) ((eTupZ (aCons (eC (.str [114, 105, 103, 104, 116])) (aCons (eC (.str [111, 118, 101, 114])) aNil)))))) (sSeq (sSet (.nm 5) ((eCall fm__law_seen (aCons (eVar 0) (aCons ((eMeth [5] 2 fm_Live_times (eVar 1) aNil)) (aCons ((eMeth [6] 2 fm_Live_minute (eVar 1) aNil)) aNil))))))
    (sIf (G.tOr ((tV (eBin bNe ((eBin bIx (eVar 3) (eC (.int 1)))) ((eMeth [5] 2 fm_Live_times (eVar 1) aNil))))) ((tV (eBin bNe ((eCall fm_course_seen (aCons (eVar 0) (aCons (eVar 2) aNil)))) (eVar 5))))) (sRet (eC (.bl false))) sNil)) (sIf (tNot ((tTr ((eCall fm__law_has_none (aCons (eVar 0) (aCons (eVar 2) aNil))))))) (sRet (eC (.bl false))) sNil))
    (sRet ((eBin bEq ((eMeth [] 2 fm_Live_is_over (eVar 1) aNil)) ((eBin bNotIn (eC .non) ((eMeth [5] 2 fm_Live_times (eVar 1) aNil))))))))))
def fm__law_is_minute_right : FM := fnR 3 6 m__law_is_minute_right
def m_Live_undo : SM := (sSeq (sIf (tV (eBin bEq ((eBuilt fLen (aCons ((eUn (uFld 2 9) (eVar 0))) aNil))) (eC (.int 1)))) (sRet (eC (.bl false))) sNil)
    (sSeq (sExpr ((ePopT ((eUn (uFld 2 9) (eVar 0))))))
    (sRet (eC (.bl true)))))
def fm_Live_undo : FM := fnR 1 1 m_Live_undo
def m__law_can_go : SM := (sSeq (sTryAs 2 (cov_PlanError) (sExpr ((eMeth [] 2 fm_Live_go (eVar 0) (aCons (eVar 1) aNil)))) (fun c => (sRet ((eIf ((tTr ((eIsErr 2 (xs c 3))))) (eC (.bl false)) (eC .non))))))
    (sRet ((eIf ((tV (eBin bIs ((eMeth [] 2 fm_Live_undo (eVar 0) aNil)) (eC (.bl true))))) (eC (.bl true)) (eC .non)))))
def fm__law_can_go : FM := fnR 2 3 m__law_can_go
def m__law_are_ends_right : SM := (sSeq (sSet (.nm 4) ((eCall fm_ends_next (aCons (eVar 0) (aCons (eVar 2) (aCons (eVar 3) aNil))))))
    (sSeq (sIf (tV (eBin bNe (eVar 4) ((eCall fm__law_ends_next (aCons (eVar 0) (aCons ((eBin bAdd ((eMeth [6] 2 fm_Live_minute (eVar 1) aNil)) (eC (.int 1)))) (aCons ((eMeth [5] 2 fm_Live_times (eVar 1) aNil)) aNil))))))) (sRet (eC (.bl false))) sNil)
    (sSeq (sSet (.nm 5) ((eLstZ (aCons ((eTupZ aNil)) aNil))))
    (sSeq (sFor (.nm 6) (iSeq ((eBin bIx (eVar 0) (eC (.int 2))))) (sSet (.nm 5) ((eBin bAdd (eVar 5) ((eLc [7] (.nm 7) ((iSeq (eVar 5))) (G.tYes) ((eBuilt fTuple (aCons ((eBuilt fSorted (aCons ((eBin bAdd (eVar 7) ((eTupZ (aCons ((eBin bIx (eVar 6) (eC (.int 3)))) aNil))))) aNil))) aNil)))))))))
    (sRet ((eBuilt fAll (aCons ((eLc [7] (.nm 7) ((iSeq (eVar 5))) (G.tYes) ((eBin bEq ((eCall fm__law_can_go (aCons (eVar 1) (aCons (eVar 7) aNil)))) ((eBin bInD (eVar 7) (eVar 4))))))) aNil))))))))
def fm__law_are_ends_right : FM := fnR 4 8 m__law_are_ends_right
def m_law : SM := (sSeq (sSet (.nm 1) ((eCall fm__law_draws (aCons (eVar 0) (aCons (eC (.int 260)) aNil)))))
    (sSeq (sSet (.nm 2) ((eCall fm__law_net (aCons (eVar 1) (aCons (eC (.int 3)) (aCons (eC (.int 5)) (aCons (eC (.int 3)) aNil)))))))
    (sSeq (sPar [6, 7, 8] (aCons ((eMake 2 fm_Live___init__ (aCons (eVar 2) aNil))) (aCons ((eTupZ aNil)) (aCons ((eTupZ aNil)) aNil))))
    (sSeq (sFor (.nm 3) (iRange1 ((eBin bAdd (eC (.int 1)) ((eCall fm__law_take (aCons (eVar 1) (aCons (eC (.int 8)) aNil))))))) (sSeq (sSet (.nm 9) ((eTupZ (aCons ((eMeth [6] 2 fm_Live_minute (eVar 6) aNil)) (aCons ((eMeth [5] 2 fm_Live_times (eVar 6) aNil)) aNil)))))
    (sSeq (sSet (.nm 10) ((eBuilt fTuple (aCons ((eLc [11] (.nm 11) ((iSeq ((eCall fm__law_left (aCons (eVar 2) (aCons ((eMeth [5] 2 fm_Live_times (eVar 6) aNil)) aNil)))))) ((tV (eBin bEq ((eCall fm__law_take (aCons (eVar 1) (aCons (eC (.int 3)) aNil)))) (eC (.int 0))))) (eVar 11))) aNil))))
    (sSeq (sFor (.nm 11) (iSeq (eVar 10)) (sExpr ((eMeth [] 2 fm_Live_come (eVar 6) (aCons (eVar 11) aNil)))))
    (sSeq (sSet (.nm 7) ((eBin bAdd (eVar 7) ((eTupZ (aCons ((eTupZ (aCons (eVar 3) (aCons (eVar 8) (aCons (eVar 10) aNil))))) aNil))))))
    (sSeq (sIf (tNot ((tTr ((eCall fm__law_is_minute_right (aCons (eVar 2) (aCons (eVar 6) (aCons (eVar 7) aNil)))))))) (sRet (eC (.bl false))) sNil)
    (sSeq (sIf (tTr ((eMeth [] 2 fm_Live_is_over (eVar 6) aNil))) (sRet ((eBin bInD ((eBin bIx ((eCall fm_audited (aCons (eVar 2) (aCons ((eBin bAdd (eVar 7) ((eTupZ (aCons ((eTupZ (aCons ((eBin bAdd (eVar 3) (eC (.int 1)))) (aCons ((eTupZ aNil)) (aCons ((eTupZ aNil)) aNil))))) aNil))))) aNil)))) (eC (.int 0)))) ((eTupZ (aCons (eC (.str [119, 114, 111, 110, 103])) (aCons (eC (.str [98, 114, 111, 107, 101, 110])) aNil))))))) sNil)
    (sSeq (sIf (tNot ((tTr ((eCall fm__law_are_ends_right (aCons (eVar 2) (aCons (eVar 6) (aCons (eVar 9) (aCons (eVar 10) aNil))))))))) (sRet (eC (.bl false))) sNil)
    (sSeq (sSet (.nm 12) ((eCall fm_ends_next (aCons (eVar 2) (aCons (eVar 9) (aCons (eVar 10) aNil))))))
    (sSeq (sSet (.nm 8) ((eBin bIx (eVar 12) ((eCall fm__law_take (aCons (eVar 1) (aCons ((eBuilt fLen (aCons (eVar 12) aNil))) aNil)))))))
    (sExpr ((eMeth [] 2 fm_Live_go (eVar 6) (aCons (eVar 8) aNil))))))))))))))
    (sSeq (sSet (.nm 4) ((eLstZ (aCons (eC .non) (aCons ((eBuilt fList (aCons (eVar 7) aNil))) (aCons ((eBin bAdd (eVar 7) ((eTupZ (aCons (eC .non) aNil))))) (aCons ((eBin bAdd ((eSl (eVar 7) oNo (oSo ((eUn uNeg (eC (.int 1))))))) ((eTupZ (aCons ((eTupZ (aCons (eC (.int 0)) (aCons ((eTupZ (aCons (eC (.int 0)) aNil))) (aCons ((eTupZ aNil)) aNil))))) aNil))))) (aCons ((eBin bAdd (eVar 7) (eVar 7))) aNil))))))))
    (sSeq (sSet (.nm 5) ((eBin bIx (eVar 4) ((eCall fm__law_take (aCons (eVar 1) (aCons ((eBuilt fLen (aCons (eVar 4) aNil))) aNil)))))))
    (sRet ((eAndV ((eBin bIs ((eCall fm_is_journal (aCons (eVar 2) (aCons (eVar 5) aNil)))) (eC (.bl false)))) ((eCall fm__law_has_none (aCons (eVar 2) (aCons (eVar 5) aNil)))))))))))))
def fm_law : FM := fnR 1 13 m_law
end K97
end

section
set_option Elab.async false
set_option linter.all false
set_option maxRecDepth 100000
set_option maxHeartbeats 4000000
namespace K97
open PySem PySem.Spec PyProof.Rows L2 G
noncomputable def nm (K : PySem.W.Frag) : Nm := { cad := fun c => He.ga K (clsL.getD c ""), fnm := fnmL fldL, xad := fun c => He.ga K (excL.getD c ""), xfl := fun _ => [], fz := fun _ => none, err := none }
def Tp (K : PySem.W.Frag) (mg : Str → Option Value) : Prop := ∃ h : Heap, K.In h ∧ h.Ns mainGlobals mg ∧ He.SaysD fa fn K ∧ ext K = true
section
variable {P : Program} {w : World} {K : PySem.W.Frag} {mg : Str → Option Value} {base : Heap}
theorem Tp.fact (T : Tp K mg) {i : Nat} {f : He.Fa} (h : fa[i]? = some f) : f.ok K = true := by
  obtain ⟨_, _, _, c, _⟩ := T
  exact c.fact i h
theorem Tp.glo (T : Tp K mg) {i : Nat} {x : Str} (h : fa[i]? = some (.glo x)) : mg x = some (.ref (He.ga K x)) := by
  have c := T.fact h
  obtain ⟨_, X, Y, _, _⟩ := T
  exact He.glo_ok X Y c
theorem Tp.free (T : Tp K mg) {i : Nat} {x : Str} (h : fa[i]? = some (.free x)) : mg x = none := by
  have c := T.fact h
  obtain ⟨_, X, Y, _, _⟩ := T
  exact He.free_ok X Y c
theorem Tp.int (T : Tp K mg) {i : Nat} {x : Str} {j : Int} (h : fa[i]? = some (.int x j)) : ∃ t, mg x = some (.int j t) := by
  have c := T.fact h
  obtain ⟨_, X, Y, _, _⟩ := T
  exact He.int_ok X Y c
theorem Tp.str (T : Tp K mg) {i : Nat} {x z : Str} (h : fa[i]? = some (.str x z)) : ∃ t, mg x = some (.str z t) := by
  have c := T.fact h
  obtain ⟨_, X, Y, _, _⟩ := T
  exact He.str_ok X Y c
theorem okF : okFn fldL = true := by decide +kernel
theorem Tp.clsOk (T : Tp K mg) {i : Nat} {c : Nat} (h : fa[i]? = some (.cls (clsL.getD c ""))) : ClsOk K (nm K) c := ⟨He.cls_ok (T.fact h), fnmL_inj okF⟩
theorem Tp.noat (T : Tp K mg) {i : Nat} {c j : Nat} (h : fa[i]? = some (.noat (clsL.getD c "") (fnmL fldL j))) : FldOk K (nm K) c j := He.noat_ok (T.fact h)
theorem Tp.meth (T : Tp K mg) {i : Nat} {c : Nat} {m : Str} (h : fa[i]? = some (.meth (clsL.getD c "") m)) : Meth K ((nm K).cad c) m (He.ma K (He.ga K (clsL.getD c "")) m) := He.meth_ok (T.fact h)
theorem Tp.mkr (T : Tp K mg) {i : Nat} {c : Nat} (h : fa[i]? = some (.mkr (clsL.getD c ""))) : Mk K ((nm K).cad c) (He.ma K (He.ga K (clsL.getD c "")) "__init__") := He.mkr_ok (T.fact h)
theorem Tp.exc (T : Tp K mg) {i : Nat} {c : Nat} (h : fa[i]? = some (.exc (excL.getD c ""))) : PySem.W.excIn K ((nm K).xad c) He.veBase "ValueError.__new__" = true ∧ PySem.W.keepIn K (.ref ((nm K).xad c)) = true ∧ PySem.W.subIn K (.ref ((nm K).xad c)) (.type "BaseException") = some true ∧ PySem.W.typeIn K (.ref ((nm K).xad c)) = some (.type "type") := He.exc_ok (T.fact h)
theorem Tp.exm (T : Tp K mg) {i : Nat} {x y : Str} {b : Bool} (h : fa[i]? = some (.exm x y b)) : PySem.W.exmOne K (.ref (He.ga K x)) (.ref (He.ga K y)) = some b := He.exm_ok (T.fact h)
theorem Tp.excC (T : Tp K mg) {c : Nat} (h : c ∈ exnL) : ExcC K ((nm K).xad c) := by
  obtain ⟨_, _, _, _, e⟩ := T
  have := List.all_eq_true.mp (Bool.and_eq_true_iff.mp e).1 c h
  unfold exC at this
  simp only [Bool.and_eq_true, decide_eq_true_eq] at this
  obtain ⟨h1, h2, h3, h4, h5, h6, h7, h8⟩ := this
  exact ⟨h1, h2, h3, h4, h5, h6, h7, h8⟩
theorem Tp.kit (T : Tp K mg) {i a b : Nat} {v : Bool} (h : kitL[i]? = some (a, b, v)) : PySem.W.kitOne K (.ref (He.ga K (excL.getD a ""))) (.ref (He.ga K (excL.getD b ""))) = some v := by
  obtain ⟨_, _, _, _, e⟩ := T
  exact of_decide_eq_true (List.all_eq_true.mp (Bool.and_eq_true_iff.mp e).2 _ (List.mem_of_getElem? h))
theorem Tp.def_ (T : Tp K mg) {i : Nat} {d : He.DefD} (h : fn[i]? = some d) : ∃ fd, FunD K d.name d.qual d.params d.body d.scope (d.dvs K) (d.kws K) (He.fAd K d.at_) fd := by
  obtain ⟨_, _, _, c, _⟩ := T
  exact c.def_ i h
end
end K97
end

section
set_option Elab.async false
set_option linter.all false
set_option maxRecDepth 100000
set_option maxHeartbeats 4000000
namespace K97
open PySem PySem.F PySem.Spec PyProof.Rows L2 G
section
variable {P : Program} {w : World} {K : PySem.W.Frag} {mg : Str → Option Value} {base : Heap}
theorem cov_PlanError_ok (T : Tp K mg) (c : Nat) (b : Bool) (h : cov_PlanError c = some b) : PySem.W.exmOne K (.ref ((nm K).xad c)) (.ref (He.ga K "PlanError")) = some b := by
  unfold cov_PlanError at h
  split at h
  · cases h; exact T.exm (i := 141) rfl
  · cases h; exact T.exm (i := 142) rfl
  · cases h; exact T.exm (i := 143) rfl
  · cases h; exact T.exm (i := 144) rfl
  · cases h; exact T.exm (i := 145) rfl
  · cases h
theorem cov_ex (c : Nat) (hc : cov_PlanError c = some true) : c ∈ exnL := by
  unfold cov_PlanError at hc
  split at hc
  · decide
  · decide
  · decide
  · decide
  · decide
  · cases hc
theorem kit_NoJournal (T : Tp K mg) (c : Nat) (hc : cov_PlanError c = some true) : PySem.W.kitOne K (.ref ((nm K).xad c)) (.ref (He.ga K "NoJournal")) = some (xs c 6) := by
  unfold cov_PlanError at hc
  split at hc
  · exact T.kit (i := 0) rfl
  · exact T.kit (i := 1) rfl
  · exact T.kit (i := 2) rfl
  · exact T.kit (i := 3) rfl
  · exact T.kit (i := 4) rfl
  · cases hc
theorem kit_NoLot (T : Tp K mg) (c : Nat) (hc : cov_PlanError c = some true) : PySem.W.kitOne K (.ref ((nm K).xad c)) (.ref (He.ga K "NoLot")) = some (xs c 3) := by
  unfold cov_PlanError at hc
  split at hc
  · exact T.kit (i := 5) rfl
  · exact T.kit (i := 6) rfl
  · exact T.kit (i := 7) rfl
  · exact T.kit (i := 8) rfl
  · exact T.kit (i := 9) rfl
  · cases hc
abbrev s__law_draws : Stmt := top 90
abbrev ns__law_draws : List Str := ["script", "many", "row", "big", "seed", "k", "cell"]
abbrev ps__law_draws : List Str := ["script", "many"]
theorem sc__law_draws : FnScope ns__law_draws ps__law_draws (defScope s__law_draws) := ⟨rfl, rfl, rfl, by decide +kernel, rfl, by decide +kernel, by decide +kernel⟩
theorem ok__law_draws (T : Tp K mg) : GFx P w K mg base (nm K) 1 (He.fAd K ("_law_draws", none)) ps__law_draws fm__law_draws := by
  obtain ⟨fd, F⟩ := T.def_ (i := 0) (d := d__law_draws) rfl
  exact ⟨fd, gf_R F sc__law_draws (fun cdv A outer s H E hr tk hp => ((gss_cons (gs_set (g_lstN ga_nil) (gp_name (i := 2) sc__law_draws.nd))
    (gss_cons (gs_set (g_if (gt_tr (g_var 0)) (gix hr (g_var 0) g_int) g_int) (gp_name (i := 3) sc__law_draws.nd))
    (gss_cons (gs_if (gtq_lt hr (g_var 3) g_int) (gss_one (gs_set (g_neg (g_var 3)) (gp_name (i := 3) sc__law_draws.nd))) gss_nil)
    (gss_cons (gs_if (gtq_ge (g_var 3) g_int) (gss_one (gs_for hp rfl (gi_range1 (g_var 1) (T.free (i := 107) rfl)) (gp_name (i := 5) sc__law_draws.nd) (gss_one (gs_if (gtq_gt (g_var 3) g_int) (gss_cons (gs_expr (g_append (g_var 2) (gp_mod (gb_int (T.free (i := 101) rfl) (g_var 3)) g_int)))
    (gss_one (gs_set (gp_div (g_var 3) g_int) (gp_name (i := 3) sc__law_draws.nd)))) gss_nil)))) gss_nil)
    (gss_cons (gs_set g_int (gp_name (i := 4) sc__law_draws.nd))
    (gss_cons (gs_for hp rfl (gi_range1 (gp_sub (g_var 1) (gb_len (T.free (i := 103) rfl) (g_var 2))) (T.free (i := 107) rfl)) (gp_name (i := 5) sc__law_draws.nd) (gss_cons (gs_set (g_var 5) (gp_name (i := 6) sc__law_draws.nd))
    (gss_cons (gs_if (gt_tr (g_var 0)) (gss_one (gs_set (gp_mod (gb_int (T.free (i := 101) rfl) (gix hr (g_var 0) (gp_mod (gp_add (g_var 5) g_int) (gb_len (T.free (i := 103) rfl) (g_var 0))))) g_int) (gp_name (i := 6) sc__law_draws.nd))) gss_nil)
    (gss_cons (gs_set (gp_mod (gb_int (T.free (i := 101) rfl) (gp_add (gp_add (gp_add (gp_mul (g_var 4) g_int) (g_var 6)) (gp_mul (g_var 5) g_int)) g_int)) g_int) (gp_name (i := 4) sc__law_draws.nd))
    (gss_one (gs_expr (g_append (g_var 2) (gp_mod (gp_div (gp_mod (gb_int (T.free (i := 101) rfl) (gp_add (gp_mul (g_var 4) g_int) g_int)) g_int) g_int) g_int))))))))
    (gss_one (gs_ret (g_var 2))))))))) : GSs _ _ _ (defBody s__law_draws) m__law_draws)), F.bindsN (fun _ _ _ _ _ _ us hl => match us, hl with | [_, _], _ => rfl), F.kp⟩
abbrev s__law_take : Stmt := top 91
abbrev ns__law_take : List Str := ["draws", "many"]
abbrev ps__law_take : List Str := ["draws", "many"]
theorem sc__law_take : FnScope ns__law_take ps__law_take (defScope s__law_take) := ⟨rfl, rfl, rfl, by decide +kernel, rfl, by decide +kernel, by decide +kernel⟩
theorem ok__law_take (T : Tp K mg) : GFx P w K mg base (nm K) 1 (He.fAd K ("_law_take", none)) ps__law_take fm__law_take := by
  obtain ⟨fd, F⟩ := T.def_ (i := 1) (d := d__law_take) rfl
  exact ⟨fd, gf_R F sc__law_take (fun cdv A outer s H E hr tk hp => ((gss_cons (gs_if (gt_not (gt_tr (g_var 0))) (gss_one (gs_ret g_int)) gss_nil)
    (gss_one (gs_ret (gp_mod (gb_int (T.free (i := 101) rfl) (g_popT (g_var 0))) (g_var 1))))) : GSs _ _ _ (defBody s__law_take) m__law_take)), F.bindsN (fun _ _ _ _ _ _ us hl => match us, hl with | [_, _], _ => rfl), F.kp⟩
abbrev s__law_lasts : Stmt := top 93
abbrev ns__law_lasts : List Str := ["draws", "order", "most", "wide", "out", "at", "low", "high"]
abbrev ps__law_lasts : List Str := ["draws", "order", "most", "wide"]
theorem sc__law_lasts : FnScope ns__law_lasts ps__law_lasts (defScope s__law_lasts) := ⟨rfl, rfl, rfl, by decide +kernel, rfl, by decide +kernel, by decide +kernel⟩
theorem ok__law_lasts (T : Tp K mg) : GFx P w K mg base (nm K) 2 (He.fAd K ("_law_lasts", none)) ps__law_lasts fm__law_lasts := by
  obtain ⟨fd, F⟩ := T.def_ (i := 2) (d := d__law_lasts) rfl
  exact ⟨fd, gf_R F sc__law_lasts (fun cdv A outer s H E hr tk hp => ((gss_cons (gs_set (g_lstN ga_nil) (gp_name (i := 4) sc__law_lasts.nd))
    (gss_cons (gs_for hp rfl (gi_range2 g_int (gb_len (T.free (i := 103) rfl) (g_var 1)) (T.free (i := 107) rfl)) (gp_name (i := 5) sc__law_lasts.nd) (gss_one (gs_if (gt_w (gw_and (gtq_lt hr (gb_len (T.free (i := 103) rfl) (g_var 4)) (g_var 2)) (gw_and1 (gtq_lt hr (gc2 (T.glo (i := 79) rfl) (ok__law_take T) (by decide) tk hr (g_var 0) g_int) g_int)))) (gss_cons (gs_set (gp_add g_int (gc2 (T.glo (i := 79) rfl) (ok__law_take T) (by decide) tk hr (g_var 0) g_int)) (gp_name (i := 6) sc__law_lasts.nd))
    (gss_cons (gs_set (gp_add (g_var 6) (gc2 (T.glo (i := 79) rfl) (ok__law_take T) (by decide) tk hr (g_var 0) (g_var 3))) (gp_name (i := 7) sc__law_lasts.nd))
    (gss_one (gs_expr (g_append (g_var 4) (g_tup (ga_cons (gix hr (g_var 1) (gc2 (T.glo (i := 79) rfl) (ok__law_take T) (by decide) tk hr (g_var 0) (g_var 5))) (ga_cons (g_var 6) (ga_cons (g_var 7) (ga_cons (gix hr (g_var 1) (g_var 5)) ga_nil)))))))))) gss_nil)))
    (gss_one (gs_ret (gb_tuple (T.free (i := 109) rfl) (gb_sorted rfl hr (T.free (i := 108) rfl) (g_var 4))))))) : GSs _ _ _ (defBody s__law_lasts) m__law_lasts)), F.bindsN (fun _ _ _ _ _ _ us hl => match us, hl with | [_, _, _, _], _ => rfl), F.kp⟩
abbrev s__law_bounds : Stmt := top 94
abbrev ns__law_bounds : List Str := ["draws", "many", "most", "low", "wide", "told", "k", "i", "j", "pair"]
abbrev ps__law_bounds : List Str := ["draws", "many", "most", "low", "wide"]
theorem sc__law_bounds : FnScope ns__law_bounds ps__law_bounds (defScope s__law_bounds) := ⟨rfl, rfl, rfl, by decide +kernel, rfl, by decide +kernel, by decide +kernel⟩
theorem ok__law_bounds (T : Tp K mg) : GFx P w K mg base (nm K) 2 (He.fAd K ("_law_bounds", none)) ps__law_bounds fm__law_bounds := by
  obtain ⟨fd, F⟩ := T.def_ (i := 3) (d := d__law_bounds) rfl
  exact ⟨fd, gf_R F sc__law_bounds (fun cdv A outer s H E hr tk hp => ((gss_cons (gs_set g_newT (gp_name (i := 5) sc__law_bounds.nd))
    (gss_cons (gs_for hp rfl (gi_range1 (gp_add g_int (gc2 (T.glo (i := 79) rfl) (ok__law_take T) (by decide) tk hr (g_var 0) (g_var 2))) (T.free (i := 107) rfl)) (gp_name (i := 6) sc__law_bounds.nd) (gss_cons (gs_par2 (i := 7) (j := 8) rfl sc__law_bounds.nd (ga_cons (gc2 (T.glo (i := 79) rfl) (ok__law_take T) (by decide) tk hr (g_var 0) (g_var 1)) (ga_cons (gc2 (T.glo (i := 79) rfl) (ok__law_take T) (by decide) tk hr (g_var 0) (g_var 1)) ga_nil)) (by rfl))
    (gss_one (gs_if (gtq_ne hr (g_var 7) (g_var 8)) (gss_one (gs_setT (gp_add (g_var 3) (gc2 (T.glo (i := 79) rfl) (ok__law_take T) (by decide) tk hr (g_var 0) (g_var 4))) (gsub hr (g_var 5) (g_tup (ga_cons (g_var 7) (ga_cons (g_var 8) ga_nil)))))) gss_nil))))
    (gss_one (gs_ret (gb_tuple (T.free (i := 109) rfl) (g_lc (own := [("pair", 9)]) rfl sc__law_bounds.nd (gi_seq (gb_sorted rfl hr (T.free (i := 108) rfl) (g_var 5))) (blkOk_by (by rfl)) (by decide) (fun _ _ _ _ _ => (gp_name (i := 9) sc__law_bounds.nd)) (fun _ _ _ _ _ => ptsG_nil) (fun _ _ _ _ _ => (g_tup (ga_cons (gix hr (g_var 9) g_int) (ga_cons (gix hr (g_var 9) g_int) (ga_cons (gix hr (g_var 5) (g_var 9)) ga_nil))))))))))) : GSs _ _ _ (defBody s__law_bounds) m__law_bounds)), F.bindsN (fun _ _ _ _ _ _ us hl => match us, hl with | [_, _, _, _, _], _ => rfl), F.kp⟩
abbrev s__law_order : Stmt := top 92
abbrev ns__law_order : List Str := ["draws", "many", "k", "left", "out"]
abbrev ps__law_order : List Str := ["draws", "many"]
theorem sc__law_order : FnScope ns__law_order ps__law_order (defScope s__law_order) := ⟨rfl, rfl, rfl, by decide +kernel, rfl, by decide +kernel, by decide +kernel⟩
theorem ok__law_order (T : Tp K mg) : GFx P w K mg base (nm K) 2 (He.fAd K ("_law_order", none)) ps__law_order fm__law_order := by
  obtain ⟨fd, F⟩ := T.def_ (i := 4) (d := d__law_order) rfl
  exact ⟨fd, gf_R F sc__law_order (fun cdv A outer s H E hr tk hp => ((gss_cons (gs_par2 (i := 3) (j := 4) rfl sc__law_order.nd (ga_cons (g_rgT2 rfl g_int (g_var 1) (T.free (i := 104) rfl) (T.free (i := 107) rfl)) (ga_cons (g_lstN (ga_cons g_int ga_nil)) ga_nil)) (by rfl))
    (gss_cons (gs_for hp rfl (gi_range1 (gp_sub (g_var 1) g_int) (T.free (i := 107) rfl)) (gp_name (i := 2) sc__law_order.nd) (gss_one (gs_expr (g_append (g_var 4) (g_popAtT (g_var 3) (gc2 (T.glo (i := 79) rfl) (ok__law_take T) (by decide) tk hr (g_var 0) (gb_len (T.free (i := 103) rfl) (g_var 3))))))))
    (gss_one (gs_ret (g_var 4))))) : GSs _ _ _ (defBody s__law_order) m__law_order)), F.bindsN (fun _ _ _ _ _ _ us hl => match us, hl with | [_, _], _ => rfl), F.kp⟩
abbrev s__law_couple : Stmt := top 95
abbrev ns__law_couple : List Str := ["draws", "told", "last", "x", "a", "low", "high", "c", "kind", "ahead"]
abbrev ps__law_couple : List Str := ["draws", "told", "last", "x"]
theorem sc__law_couple : FnScope ns__law_couple ps__law_couple (defScope s__law_couple) := ⟨rfl, rfl, rfl, by decide +kernel, rfl, by decide +kernel, by decide +kernel⟩
theorem ok__law_couple (T : Tp K mg) : GFx P w K mg base (nm K) 2 (He.fAd K ("_law_couple", none)) ps__law_couple fm__law_couple := by
  obtain ⟨fd, F⟩ := T.def_ (i := 5) (d := d__law_couple) rfl
  exact ⟨fd, gf_R F sc__law_couple (fun cdv A outer s H E hr tk hp => ((gss_cons (gs_set (g_var 2) (gp_tup rfl (gps_cons (gp_name (i := 4) sc__law_couple.nd) (gps_cons (gp_name (i := 5) sc__law_couple.nd) (gps_cons (gp_name (i := 6) sc__law_couple.nd) (gps_cons (gp_name (i := 7) sc__law_couple.nd) gps_nil)))) rfl))
    (gss_cons (gs_par2 (i := 8) (j := 9) rfl sc__law_couple.nd (ga_cons (gc2 (T.glo (i := 79) rfl) (ok__law_take T) (by decide) tk hr (g_var 0) g_int) (ga_cons (gp_add g_int (gc2 (T.glo (i := 79) rfl) (ok__law_take T) (by decide) tk hr (g_var 0) (g_var 5))) ga_nil)) (by rfl))
    (gss_one (gs_if (gtq_eq hr (g_var 8) g_int) (gss_one (gs_setT (g_tup (ga_cons (gp_sub g_int (g_var 9)) (ga_cons (gp_add (g_var 9) (gc2 (T.glo (i := 79) rfl) (ok__law_take T) (by decide) tk hr (g_var 0) (gb_max2 rfl hr (T.free (i := 105) rfl) g_int (gp_sub (g_var 6) (g_var 5))))) ga_nil))) (gt_tup rfl (gts_cons (gsub hr (g_var 1) (g_tup (ga_cons (g_var 7) (ga_cons (g_var 3) ga_nil)))) (gts_cons (gsub hr (g_var 1) (g_tup (ga_cons (g_var 3) (ga_cons (g_var 7) ga_nil)))) gts_nil)) rfl))) (gss_one (gs_if (gtq_eq hr (g_var 8) g_int) (gss_one (gs_setT (g_tup (ga_cons (gp_sub g_int (g_var 9)) (ga_cons (gp_add (gp_sub (gp_add (g_var 9) (g_var 6)) (g_var 5)) (gc2 (T.glo (i := 79) rfl) (ok__law_take T) (by decide) tk hr (g_var 0) g_int)) ga_nil))) (gt_tup rfl (gts_cons (gsub hr (g_var 1) (g_tup (ga_cons (g_var 7) (ga_cons (g_var 3) ga_nil)))) (gts_cons (gsub hr (g_var 1) (g_tup (ga_cons (g_var 3) (ga_cons (g_var 7) ga_nil)))) gts_nil)) rfl))) (gss_one (gs_if (gtq_eq hr (g_var 8) g_int) (gss_one (gs_setT (g_tup (ga_cons (gc2 (T.glo (i := 79) rfl) (ok__law_take T) (by decide) tk hr (g_var 0) g_int) (ga_cons (gc2 (T.glo (i := 79) rfl) (ok__law_take T) (by decide) tk hr (g_var 0) g_int) ga_nil))) (gt_tup rfl (gts_cons (gsub hr (g_var 1) (g_tup (ga_cons (g_var 7) (ga_cons (g_var 3) ga_nil)))) (gts_cons (gsub hr (g_var 1) (g_tup (ga_cons (g_var 3) (ga_cons (g_var 7) ga_nil)))) gts_nil)) rfl))) (gss_one (gs_if (gtq_eq hr (g_var 8) g_int) (gss_cons (gs_setT (gp_sub g_int (gc2 (T.glo (i := 79) rfl) (ok__law_take T) (by decide) tk hr (g_var 0) g_int)) (gsub hr (g_var 1) (g_tup (ga_cons (g_var 3) (ga_cons (g_var 7) ga_nil)))))
    (gss_one (gs_setT (gp_sub (gc2 (T.glo (i := 79) rfl) (ok__law_take T) (by decide) tk hr (g_var 0) g_int) (gix hr (g_var 1) (g_tup (ga_cons (g_var 3) (ga_cons (g_var 7) ga_nil))))) (gsub hr (g_var 1) (g_tup (ga_cons (g_var 7) (ga_cons (g_var 3) ga_nil))))))) (gss_one (gs_if (gtq_eq hr (g_var 8) g_int) (gss_one (gs_setT (gc2 (T.glo (i := 79) rfl) (ok__law_take T) (by decide) tk hr (g_var 0) (g_var 6)) (gsub hr (g_var 1) (g_tup (ga_cons (g_var 3) (ga_cons (g_var 7) ga_nil)))))) gss_nil)))))))))))) : GSs _ _ _ (defBody s__law_couple) m__law_couple)), F.bindsN (fun _ _ _ _ _ _ us hl => match us, hl with | [_, _, _, _], _ => rfl), F.kp⟩
abbrev s__law_net : Stmt := top 96
abbrev ns__law_net : List Str := ["draws", "least", "most", "ends", "many", "lasts", "there", "last", "ours", "told", "i", "j", "w", "event", "pair"]
abbrev ps__law_net : List Str := ["draws", "least", "most", "ends"]
theorem sc__law_net : FnScope ns__law_net ps__law_net (defScope s__law_net) := ⟨rfl, rfl, rfl, by decide +kernel, rfl, by decide +kernel, by decide +kernel⟩
theorem ok__law_net (T : Tp K mg) : GFx P w K mg base (nm K) 3 (He.fAd K ("_law_net", none)) ps__law_net fm__law_net := by
  obtain ⟨fd, F⟩ := T.def_ (i := 6) (d := d__law_net) rfl
  exact ⟨fd, gf_R F sc__law_net (fun cdv A outer s H E hr tk hp => ((gss_cons (gs_set (gp_add (g_var 1) (gc2 (T.glo (i := 79) rfl) (ok__law_take T) (by decide) tk hr (g_var 0) (gp_add (gp_sub (g_var 2) (g_var 1)) g_int))) (gp_name (i := 4) sc__law_net.nd))
    (gss_cons (gs_set (gc4 (T.glo (i := 81) rfl) (ok__law_lasts T) (by decide) tk hr (g_var 0) (gc2 (T.glo (i := 80) rfl) (ok__law_order T) (by decide) tk hr (g_var 0) (g_var 4)) (gb_min2 rfl hr (T.free (i := 106) rfl) (g_var 3) (gb_max2 rfl hr (T.free (i := 105) rfl) g_int (gp_sub (g_var 4) g_int))) g_int) (gp_name (i := 5) sc__law_net.nd))
    (gss_cons (by first | exact gs_setLc (i := 6) (y := "there") (by rfl) sc__law_net.nd rfl rfl (sw_true rfl rfl rfl (by rfl)) (own := [("last", 7)]) (gi_seq (g_var 5)) (blkOk_by (by rfl)) (by decide) (fun _ _ _ _ _ => (gp_name (i := 7) sc__law_net.nd)) (fun _ _ _ _ _ => ptsG_nil) (fun _ _ _ _ _ => (gix hr (g_var 7) g_int)) | exact gs_set (g_lc (own := [("last", 7)]) rfl sc__law_net.nd (gi_seq (g_var 5)) (blkOk_by (by rfl)) (by decide) (fun _ _ _ _ _ => (gp_name (i := 7) sc__law_net.nd)) (fun _ _ _ _ _ => ptsG_nil) (fun _ _ _ _ _ => (gix hr (g_var 7) g_int))) (gp_name (i := 6) sc__law_net.nd))
    (gss_cons (gs_set (g_tup (ga_cons (g_lc (own := [("event", 13)]) rfl sc__law_net.nd (gi_range2 g_int (g_var 4) (T.free (i := 107) rfl)) (blkOk_by (by rfl)) (by decide) (fun _ _ _ _ _ => (gp_name (i := 13) sc__law_net.nd)) (fun _ _ _ _ _ => (ptsG_one (gtq_nin hr (g_var 13) (g_var 6)))) (fun _ _ _ _ _ => (g_var 13))) (ga_cons g_newT ga_nil))) (gp_tup rfl (gps_cons (gp_name (i := 8) sc__law_net.nd) (gps_cons (gp_name (i := 9) sc__law_net.nd) gps_nil)) rfl))
    (gss_cons (gs_for hp rfl (gi_seq (g_var 5)) (gp_name (i := 7) sc__law_net.nd) (gss_one (gs_if (gt_w (gw_and (gt_tr (g_var 8)) (gw_and1 (gtq_gt (gc2 (T.glo (i := 79) rfl) (ok__law_take T) (by decide) tk hr (g_var 0) g_int) g_int)))) (gss_one (gs_expr (gc4 (T.glo (i := 83) rfl) (ok__law_couple T) (by decide) tk hr (g_var 0) (g_var 9) (g_var 7) (gix hr (g_var 8) (gc2 (T.glo (i := 79) rfl) (ok__law_take T) (by decide) tk hr (g_var 0) (gb_len (T.free (i := 103) rfl) (g_var 8))))))) gss_nil)))
    (gss_cons (gs_for hp rfl (gi_seq (gc5 (T.glo (i := 82) rfl) (ok__law_bounds T) (by decide) tk hr (g_var 0) (g_var 4) (gp_add g_int (gp_div (g_var 4) g_int)) (gp_sub (gc2 (T.glo (i := 79) rfl) (ok__law_take T) (by decide) tk hr (g_var 0) g_int) g_int) g_int)) (gp_tup rfl (gps_cons (gp_name (i := 10) sc__law_net.nd) (gps_cons (gp_name (i := 11) sc__law_net.nd) (gps_cons (gp_name (i := 12) sc__law_net.nd) gps_nil))) rfl) (gss_one (gs_if (gt_w (gw_and (gtq_nin hr (g_tup (ga_cons (g_var 10) (ga_cons (g_var 11) ga_nil))) (g_var 9)) (gw_and1 (gtq_gt (gc2 (T.glo (i := 79) rfl) (ok__law_take T) (by decide) tk hr (g_var 0) g_int) g_int)))) (gss_one (gs_setT (g_var 12) (gsub hr (g_var 9) (g_tup (ga_cons (g_var 10) (ga_cons (g_var 11) ga_nil)))))) gss_nil)))
    (gss_one (gs_ret (g_tup (ga_cons (g_var 4) (ga_cons (gb_tuple (T.free (i := 109) rfl) (g_lc (own := [("pair", 14)]) rfl sc__law_net.nd (gi_seq (gb_sorted rfl hr (T.free (i := 108) rfl) (g_var 9))) (blkOk_by (by rfl)) (by decide) (fun _ _ _ _ _ => (gp_name (i := 14) sc__law_net.nd)) (fun _ _ _ _ _ => ptsG_nil) (fun _ _ _ _ _ => (g_tup (ga_cons (gix hr (g_var 14) g_int) (ga_cons (gix hr (g_var 14) g_int) (ga_cons (gix hr (g_var 9) (g_var 14)) ga_nil))))))) (ga_cons (g_var 5) ga_nil)))))))))))) : GSs _ _ _ (defBody s__law_net) m__law_net)), F.bindsN (fun _ _ _ _ _ _ us hl => match us, hl with | [_, _, _, _], _ => rfl), F.kp⟩
abbrev s_is_sized : Stmt := top 12
abbrev ns_is_sized : List Str := ["thing", "least", "most"]
abbrev ps_is_sized : List Str := ["thing", "least", "most"]
theorem sc_is_sized : FnScope ns_is_sized ps_is_sized (defScope s_is_sized) := ⟨rfl, rfl, rfl, by decide +kernel, rfl, by decide +kernel, by decide +kernel⟩
theorem ok_is_sized (T : Tp K mg) : GFx P w K mg base (nm K) 1 (He.fAd K ("is_sized", none)) ps_is_sized fm_is_sized := by
  obtain ⟨fd, F⟩ := T.def_ (i := 7) (d := d_is_sized) rfl
  exact ⟨fd, gf_P F sc_is_sized (fun cdv A outer s H E hr tk hp => ((gss_one (gs_ret (g_and (gb_is_tuple (T.free (i := 102) rfl) (T.free (i := 109) rfl) (g_var 0)) (g_one (gq_le_le (g_var 1) (gb_len (T.free (i := 103) rfl) (g_var 0)) (g_var 2)))))) : GSs _ _ _ (defBody s_is_sized) m_is_sized)), F.bindsN (fun _ _ _ _ _ _ us hl => match us, hl with | [_, _, _], _ => rfl), F.kp⟩
abbrev s_is_int : Stmt := top 10
abbrev ns_is_int : List Str := ["thing"]
abbrev ps_is_int : List Str := ["thing"]
theorem sc_is_int : FnScope ns_is_int ps_is_int (defScope s_is_int) := ⟨rfl, rfl, rfl, by decide +kernel, rfl, by decide +kernel, by decide +kernel⟩
theorem ok_is_int (T : Tp K mg) : GFx P w K mg base (nm K) 1 (He.fAd K ("is_int", none)) ps_is_int fm_is_int := by
  obtain ⟨fd, F⟩ := T.def_ (i := 8) (d := d_is_int) rfl
  exact ⟨fd, gf_P F sc_is_int (fun cdv A outer s H E hr tk hp => ((gss_one (gs_ret (g_and (gb_is_int (T.free (i := 102) rfl) (T.free (i := 101) rfl) (g_var 0)) (g_one (g_not (gb_is_bool (T.free (i := 102) rfl) (T.free (i := 99) rfl) (g_var 0))))))) : GSs _ _ _ (defBody s_is_int) m_is_int)), F.bindsN (fun _ _ _ _ _ _ us hl => match us, hl with | [_], _ => rfl), F.kp⟩
abbrev s_is_within : Stmt := top 11
abbrev ns_is_within : List Str := ["thing", "low", "high"]
abbrev ps_is_within : List Str := ["thing", "low", "high"]
theorem sc_is_within : FnScope ns_is_within ps_is_within (defScope s_is_within) := ⟨rfl, rfl, rfl, by decide +kernel, rfl, by decide +kernel, by decide +kernel⟩
theorem ok_is_within (T : Tp K mg) : GFx P w K mg base (nm K) 2 (He.fAd K ("is_within", none)) ps_is_within fm_is_within := by
  obtain ⟨fd, F⟩ := T.def_ (i := 9) (d := d_is_within) rfl
  exact ⟨fd, gf_P F sc_is_within (fun cdv A outer s H E hr tk hp => ((gss_one (gs_ret (g_and (gc1 (T.glo (i := 8) rfl) (ok_is_int T) (by decide) tk hr (g_var 0)) (g_one (gq_le_le (g_var 1) (g_var 0) (g_var 2)))))) : GSs _ _ _ (defBody s_is_within) m_is_within)), F.bindsN (fun _ _ _ _ _ _ us hl => match us, hl with | [_, _, _], _ => rfl), F.kp⟩
abbrev s_is_bound : Stmt := top 25
abbrev ns_is_bound : List Str := ["many", "thing"]
abbrev ps_is_bound : List Str := ["many", "thing"]
theorem sc_is_bound : FnScope ns_is_bound ps_is_bound (defScope s_is_bound) := ⟨rfl, rfl, rfl, by decide +kernel, rfl, by decide +kernel, by decide +kernel⟩
theorem ok_is_bound (T : Tp K mg) : GFx P w K mg base (nm K) 3 (He.fAd K ("is_bound", none)) ps_is_bound fm_is_bound := by
  obtain ⟨fd, F⟩ := T.def_ (i := 10) (d := d_is_bound) rfl
  exact ⟨fd, gf_P F sc_is_bound (fun cdv A outer s H E hr tk hp => ((gss_cons (gs_if (gt_w (gw_or (gt_not (gt_tr (gc3 (T.glo (i := 10) rfl) (ok_is_sized T) (by decide) tk hr (g_var 1) g_int g_int))) (gw_or (gt_not (gt_tr (gc3 (T.glo (i := 9) rfl) (ok_is_within T) (by decide) tk hr (gix hr (g_var 1) g_int) g_int (gp_sub (g_var 0) g_int)))) (gw_or1 (gt_not (gt_tr (gc3 (T.glo (i := 9) rfl) (ok_is_within T) (by decide) tk hr (gix hr (g_var 1) g_int) g_int (gp_sub (g_var 0) g_int)))))))) (gss_one (gs_ret g_bl)) gss_nil)
    (gss_one (gs_ret (g_and (gq_ne hr (gix hr (g_var 1) g_int) (gix hr (g_var 1) g_int)) (g_one (gc3 (T.glo (i := 9) rfl) (ok_is_within T) (by decide) tk hr (gix hr (g_var 1) g_int) (gp_sub g_int (g_gint (T.int (i := 18) rfl))) (g_gint (T.int (i := 18) rfl)))))))) : GSs _ _ _ (defBody s_is_bound) m_is_bound)), F.bindsN (fun _ _ _ _ _ _ us hl => match us, hl with | [_, _], _ => rfl), F.kp⟩
abbrev s_are_bounds : Stmt := top 26
abbrev ns_are_bounds : List Str := ["many", "thing", "one", "other"]
abbrev ps_are_bounds : List Str := ["many", "thing"]
theorem sc_are_bounds : FnScope ns_are_bounds ps_are_bounds (defScope s_are_bounds) := ⟨rfl, rfl, rfl, by decide +kernel, rfl, by decide +kernel, by decide +kernel⟩
theorem ok_are_bounds (T : Tp K mg) : GFx P w K mg base (nm K) 4 (He.fAd K ("are_bounds", none)) ps_are_bounds fm_are_bounds := by
  obtain ⟨fd, F⟩ := T.def_ (i := 11) (d := d_are_bounds) rfl
  exact ⟨fd, gf_P F sc_are_bounds (fun cdv A outer s H E hr tk hp => ((gss_cons (gs_if (gt_w (gw_or (gt_not (gt_tr (gc3 (T.glo (i := 10) rfl) (ok_is_sized T) (by decide) tk hr (g_var 1) g_int (g_gint (T.int (i := 17) rfl))))) (gw_or1 (gt_not (gt_tr (gb_all rfl (T.free (i := 97) rfl) (g_lc (own := [("one", 2)]) rfl sc_are_bounds.nd (gi_seq (g_var 1)) (blkOk_by (by rfl)) (by decide) (fun _ _ _ _ _ => (gp_name (i := 2) sc_are_bounds.nd)) (fun _ _ _ _ _ => ptsG_nil) (fun _ _ _ _ _ => (gc2 (T.glo (i := 22) rfl) (ok_is_bound T) (by decide) Takes.wf hr (g_var 0) (g_var 2)))))))))) (gss_one (gs_ret g_bl)) gss_nil)
    (gss_one (gs_ret (gb_all rfl (T.free (i := 97) rfl) (g_lc (own := [("one", 2), ("other", 3)]) rfl sc_are_bounds.nd (gi_zip (g_var 1) (g_slice (g_var 1) (go_so g_int) go_no) (T.free (i := 110) rfl)) (blkOk_by (by rfl)) (by decide) (fun _ _ _ _ _ => (gp_tup rfl (gps_cons (gp_name (i := 2) sc_are_bounds.nd) (gps_cons (gp_name (i := 3) sc_are_bounds.nd) gps_nil)) rfl)) (fun _ _ _ _ _ => ptsG_nil) (fun _ _ _ _ _ => (gq_lt hr (g_slice (g_var 2) go_no (go_so g_int)) (g_slice (g_var 3) go_no (go_so g_int))))))))) : GSs _ _ _ (defBody s_are_bounds) m_are_bounds)), F.bindsN (fun _ _ _ _ _ _ us hl => match us, hl with | [_, _], _ => rfl), F.kp⟩
abbrev s_is_rising : Stmt := top 13
abbrev ns_is_rising : List Str := ["some", "one", "other"]
abbrev ps_is_rising : List Str := ["some"]
theorem sc_is_rising : FnScope ns_is_rising ps_is_rising (defScope s_is_rising) := ⟨rfl, rfl, rfl, by decide +kernel, rfl, by decide +kernel, by decide +kernel⟩
theorem ok_is_rising (T : Tp K mg) : GFx P w K mg base (nm K) 1 (He.fAd K ("is_rising", none)) ps_is_rising fm_is_rising := by
  obtain ⟨fd, F⟩ := T.def_ (i := 12) (d := d_is_rising) rfl
  exact ⟨fd, gf_P F sc_is_rising (fun cdv A outer s H E hr tk hp => ((gss_one (gs_ret (gb_all rfl (T.free (i := 97) rfl) (g_lc (own := [("one", 1), ("other", 2)]) rfl sc_is_rising.nd (gi_zip (g_var 0) (g_slice (g_var 0) (go_so g_int) go_no) (T.free (i := 110) rfl)) (blkOk_by (by rfl)) (by decide) (fun _ _ _ _ _ => (gp_tup rfl (gps_cons (gp_name (i := 1) sc_is_rising.nd) (gps_cons (gp_name (i := 2) sc_is_rising.nd) gps_nil)) rfl)) (fun _ _ _ _ _ => ptsG_nil) (fun _ _ _ _ _ => (gq_lt hr (g_var 1) (g_var 2))))))) : GSs _ _ _ (defBody s_is_rising) m_is_rising)), F.bindsN (fun _ _ _ _ _ _ us hl => match us, hl with | [_], _ => rfl), F.kp⟩
abbrev s_are_rooted : Stmt := top 23
abbrev ns_are_rooted : List Str := ["lasts", "begins", "event", "last", "here", "steps"]
abbrev ps_are_rooted : List Str := ["lasts"]
theorem sc_are_rooted : FnScope ns_are_rooted ps_are_rooted (defScope s_are_rooted) := ⟨rfl, rfl, rfl, by decide +kernel, rfl, by decide +kernel, by decide +kernel⟩
theorem ok_are_rooted (T : Tp K mg) : GFx P w K mg base (nm K) 1 (He.fAd K ("are_rooted", none)) ps_are_rooted fm_are_rooted := by
  obtain ⟨fd, F⟩ := T.def_ (i := 13) (d := d_are_rooted) rfl
  exact ⟨fd, gf_P F sc_are_rooted (fun cdv A outer s H E hr tk hp => ((gss_cons (by first | exact gs_setDc (i := 1) (y := "begins") rfl sc_are_rooted.nd rfl rfl (sw_trueD rfl rfl rfl (by rfl)) (own := [("last", 3)]) (gi_seq (g_var 0)) (blkOk_by (by rfl)) (by decide) (fun _ _ _ _ _ => (gp_name (i := 3) sc_are_rooted.nd)) (fun _ _ _ _ _ => ptsG_nil) (fun _ _ _ _ _ => (gix hr (g_var 3) g_int)) (fun _ _ _ _ _ => (gix hr (g_var 3) g_int)) | exact gs_set (g_dc (own := [("last", 3)]) rfl sc_are_rooted.nd (gi_seq (g_var 0)) (blkOk_by (by rfl)) (by decide) (fun _ _ _ _ _ => (gp_name (i := 3) sc_are_rooted.nd)) (fun _ _ _ _ _ => ptsG_nil) (fun _ _ _ _ _ => (gix hr (g_var 3) g_int)) (fun _ _ _ _ _ => (gix hr (g_var 3) g_int))) (gp_name (i := 1) sc_are_rooted.nd))
    (gss_cons (gs_if (gtq_ne hr (gb_len (T.free (i := 103) rfl) (g_var 1)) (gb_len (T.free (i := 103) rfl) (g_var 0))) (gss_one (gs_ret g_bl)) gss_nil)
    (gss_cons (gs_forK 1 hp rfl (gp_name (i := 2) sc_are_rooted.nd) (gss_cons (gs_par2 (i := 4) (j := 5) rfl sc_are_rooted.nd (ga_cons (g_var 2) (ga_cons g_int ga_nil)) (by rfl))
    (gss_cons (gs_while (F := 1000) hp (gt_w (gw_and (gtq_in hr (g_var 4) (g_var 1)) (gw_and1 (gtq_le (g_var 5) (gb_len (T.free (i := 103) rfl) (g_var 0)))))) (gss_one (gs_par2 (i := 4) (j := 5) rfl sc_are_rooted.nd (ga_cons (gix hr (g_var 1) (g_var 4)) (ga_cons (gp_add (g_var 5) g_int) ga_nil)) (by rfl))))
    (gss_one (gs_if (gtq_in hr (g_var 4) (g_var 1)) (gss_one (gs_ret g_bl)) gss_nil)))))
    (gss_one (gs_ret g_bl))))) : GSs _ _ _ (defBody s_are_rooted) m_are_rooted)), F.bindsN (fun _ _ _ _ _ _ us hl => match us, hl with | [_], _ => rfl), F.kp⟩
abbrev s_is_last : Stmt := top 22
abbrev ns_is_last : List Str := ["many", "thing"]
abbrev ps_is_last : List Str := ["many", "thing"]
theorem sc_is_last : FnScope ns_is_last ps_is_last (defScope s_is_last) := ⟨rfl, rfl, rfl, by decide +kernel, rfl, by decide +kernel, by decide +kernel⟩
theorem ok_is_last (T : Tp K mg) : GFx P w K mg base (nm K) 3 (He.fAd K ("is_last", none)) ps_is_last fm_is_last := by
  obtain ⟨fd, F⟩ := T.def_ (i := 14) (d := d_is_last) rfl
  exact ⟨fd, gf_P F sc_is_last (fun cdv A outer s H E hr tk hp => ((gss_cons (gs_if (gt_w (gw_or (gt_not (gt_tr (gc3 (T.glo (i := 10) rfl) (ok_is_sized T) (by decide) tk hr (g_var 1) g_int g_int))) (gw_or (gt_not (gt_tr (gc3 (T.glo (i := 9) rfl) (ok_is_within T) (by decide) tk hr (gix hr (g_var 1) g_int) g_int (gp_sub (g_var 0) g_int)))) (gw_or1 (gt_not (gt_tr (gc3 (T.glo (i := 9) rfl) (ok_is_within T) (by decide) tk hr (gix hr (g_var 1) g_int) g_int (gp_sub (g_var 0) g_int)))))))) (gss_one (gs_ret g_bl)) gss_nil)
    (gss_cons (gs_if (gt_w (gw_or (gt_not (gt_tr (gc3 (T.glo (i := 9) rfl) (ok_is_within T) (by decide) tk hr (gix hr (g_var 1) g_int) g_int (g_gint (T.int (i := 16) rfl))))) (gw_or1 (gt_not (gt_tr (gc3 (T.glo (i := 9) rfl) (ok_is_within T) (by decide) tk hr (gix hr (g_var 1) g_int) g_int (g_gint (T.int (i := 16) rfl)))))))) (gss_one (gs_ret g_bl)) gss_nil)
    (gss_one (gs_ret (g_and (gq_le (gix hr (g_var 1) g_int) (gix hr (g_var 1) g_int)) (g_one (gq_ne hr (gix hr (g_var 1) g_int) (gix hr (g_var 1) g_int)))))))) : GSs _ _ _ (defBody s_is_last) m_is_last)), F.bindsN (fun _ _ _ _ _ _ us hl => match us, hl with | [_, _], _ => rfl), F.kp⟩
abbrev s_are_lasts : Stmt := top 24
abbrev ns_are_lasts : List Str := ["many", "thing", "one"]
abbrev ps_are_lasts : List Str := ["many", "thing"]
theorem sc_are_lasts : FnScope ns_are_lasts ps_are_lasts (defScope s_are_lasts) := ⟨rfl, rfl, rfl, by decide +kernel, rfl, by decide +kernel, by decide +kernel⟩
theorem ok_are_lasts (T : Tp K mg) : GFx P w K mg base (nm K) 4 (He.fAd K ("are_lasts", none)) ps_are_lasts fm_are_lasts := by
  obtain ⟨fd, F⟩ := T.def_ (i := 15) (d := d_are_lasts) rfl
  exact ⟨fd, gf_P F sc_are_lasts (fun cdv A outer s H E hr tk hp => ((gss_cons (gs_if (gt_w (gw_or (gt_not (gt_tr (gc3 (T.glo (i := 10) rfl) (ok_is_sized T) (by decide) tk hr (g_var 1) g_int (g_gint (T.int (i := 15) rfl))))) (gw_or1 (gt_not (gt_tr (gb_all rfl (T.free (i := 97) rfl) (g_lc (own := [("one", 2)]) rfl sc_are_lasts.nd (gi_seq (g_var 1)) (blkOk_by (by rfl)) (by decide) (fun _ _ _ _ _ => (gp_name (i := 2) sc_are_lasts.nd)) (fun _ _ _ _ _ => ptsG_nil) (fun _ _ _ _ _ => (gc2 (T.glo (i := 19) rfl) (ok_is_last T) (by decide) Takes.wf hr (g_var 0) (g_var 2)))))))))) (gss_one (gs_ret g_bl)) gss_nil)
    (gss_one (gs_ret (g_and (gc1 (T.glo (i := 11) rfl) (ok_is_rising T) (by decide) tk hr (g_var 1)) (g_one (gc1 (T.glo (i := 20) rfl) (ok_are_rooted T) (by decide) tk hr (g_var 1))))))) : GSs _ _ _ (defBody s_are_lasts) m_are_lasts)), F.bindsN (fun _ _ _ _ _ _ us hl => match us, hl with | [_, _], _ => rfl), F.kp⟩
abbrev s_is_net : Stmt := top 27
abbrev ns_is_net : List Str := ["thing"]
abbrev ps_is_net : List Str := ["thing"]
theorem sc_is_net : FnScope ns_is_net ps_is_net (defScope s_is_net) := ⟨rfl, rfl, rfl, by decide +kernel, rfl, by decide +kernel, by decide +kernel⟩
theorem ok_is_net (T : Tp K mg) : GFx P w K mg base (nm K) 5 (He.fAd K ("is_net", none)) ps_is_net fm_is_net := by
  obtain ⟨fd, F⟩ := T.def_ (i := 16) (d := d_is_net) rfl
  exact ⟨fd, gf_P F sc_is_net (fun cdv A outer s H E hr tk hp => ((gss_cons (gs_if (gt_w (gw_or (gt_not (gt_tr (gc3 (T.glo (i := 10) rfl) (ok_is_sized T) (by decide) tk hr (g_var 0) g_int g_int))) (gw_or1 (gt_not (gt_tr (gc3 (T.glo (i := 9) rfl) (ok_is_within T) (by decide) tk hr (gix hr (g_var 0) g_int) g_int (g_gint (T.int (i := 14) rfl)))))))) (gss_one (gs_ret g_bl)) gss_nil)
    (gss_one (gs_ret (g_and (gc2 (T.glo (i := 23) rfl) (ok_are_bounds T) (by decide) tk hr (gix hr (g_var 0) g_int) (gix hr (g_var 0) g_int)) (g_one (gc2 (T.glo (i := 21) rfl) (ok_are_lasts T) (by decide) tk hr (gix hr (g_var 0) g_int) (gix hr (g_var 0) g_int))))))) : GSs _ _ _ (defBody s_is_net) m_is_net)), F.bindsN (fun _ _ _ _ _ _ us hl => match us, hl with | [_], _ => rfl), F.kp⟩
abbrev s_check_net : Stmt := top 28
abbrev ns_check_net : List Str := ["net"]
abbrev ps_check_net : List Str := ["net"]
theorem sc_check_net : FnScope ns_check_net ps_check_net (defScope s_check_net) := ⟨rfl, rfl, rfl, by decide +kernel, rfl, by decide +kernel, by decide +kernel⟩
theorem ok_check_net (T : Tp K mg) : GFx P w K mg base (nm K) 6 (He.fAd K ("check_net", none)) ps_check_net fm_check_net := by
  obtain ⟨fd, F⟩ := T.def_ (i := 17) (d := d_check_net) rfl
  exact ⟨fd, gf_P F sc_check_net (fun cdv A outer s H E hr tk hp => ((gss_one (gs_if (gt_not (gt_tr (gc1 (T.glo (i := 24) rfl) (ok_is_net T) (by decide) tk hr (g_var 0)))) (gss_one (gs_raise0 (c := 1) rfl tk excBase_ValueError (T.exc (i := 136) rfl).1 (T.glo (i := 2) rfl) (T.exc (i := 136) rfl).2.1 (raises_own (T.exc (i := 136) rfl).2.2.1 (T.exc (i := 136) rfl).2.2.2))) gss_nil)) : GSs _ _ _ (defBody s_check_net) m_check_net)), F.bindsN (fun _ _ _ _ _ _ us hl => match us, hl with | [_], _ => rfl), F.kp⟩
abbrev s_raw_first_place : Stmt := top 64
abbrev ns_raw_first_place : List Str := ["net"]
abbrev ps_raw_first_place : List Str := ["net"]
theorem sc_raw_first_place : FnScope ns_raw_first_place ps_raw_first_place (defScope s_raw_first_place) := ⟨rfl, rfl, rfl, by decide +kernel, rfl, by decide +kernel, by decide +kernel⟩
theorem ok_raw_first_place (T : Tp K mg) : GFx P w K mg base (nm K) 1 (He.fAd K ("raw_first_place", none)) ps_raw_first_place fm_raw_first_place := by
  obtain ⟨fd, F⟩ := T.def_ (i := 18) (d := d_raw_first_place) rfl
  exact ⟨fd, gf_P F sc_raw_first_place (fun cdv A outer s H E hr tk hp => ((gss_one (gs_ret (g_tup (ga_cons g_int (ga_cons (gp_add (g_tup (ga_cons g_int ga_nil)) (gp_mul (g_tup (ga_cons g_non ga_nil)) (gp_sub (gix hr (g_var 0) g_int) g_int))) ga_nil))))) : GSs _ _ _ (defBody s_raw_first_place) m_raw_first_place)), F.bindsN (fun _ _ _ _ _ _ us hl => match us, hl with | [_], _ => rfl), F.kp⟩
abbrev s_Live___init__ : Stmt := inClass (top 88) 0
abbrev ns_Live___init__ : List Str := ["self", "net"]
abbrev ps_Live___init__ : List Str := ["self", "net"]
theorem sc_Live___init__ : FnScope ns_Live___init__ ps_Live___init__ (defScope s_Live___init__) := ⟨rfl, rfl, rfl, by decide +kernel, rfl, by decide +kernel, by decide +kernel⟩
theorem ok_Live___init__ (T : Tp K mg) : GFx P w K mg base (nm K) 7 (He.fAd K ("Live", some "__init__")) ps_Live___init__ fm_Live___init__ := by
  obtain ⟨fd, F⟩ := T.def_ (i := 19) (d := d_Live___init__) rfl
  exact ⟨fd, gf_R F sc_Live___init__ (fun cdv A outer s H E hr tk hp => ((gss_cons (gs_expr (gc1 (T.glo (i := 25) rfl) (ok_check_net T) (by decide) tk hr (g_var 1)))
    (gss_cons (gs_setT (g_var 1) (gt_fld (T.clsOk (i := 121) rfl) (T.noat (i := 134) rfl) rfl (g_var 0)))
    (gss_one (gs_setT (g_lstN (ga_cons (gc1 (T.glo (i := 57) rfl) (ok_raw_first_place T) (by decide) tk hr (g_var 1)) ga_nil)) (gt_fld (T.clsOk (i := 121) rfl) (T.noat (i := 135) rfl) rfl (g_var 0)))))) : GSs _ _ _ (defBody s_Live___init__) m_Live___init__)), F.bindsN (fun _ _ _ _ _ _ us hl => match us, hl with | [_, _], _ => rfl), F.kp⟩
abbrev s_Live_is_over : Stmt := inClass (top 88) 9
abbrev ns_Live_is_over : List Str := ["self"]
abbrev ps_Live_is_over : List Str := ["self"]
theorem sc_Live_is_over : FnScope ns_Live_is_over ps_Live_is_over (defScope s_Live_is_over) := ⟨rfl, rfl, rfl, by decide +kernel, rfl, by decide +kernel, by decide +kernel⟩
theorem ok_Live_is_over (T : Tp K mg) : GFx P w K mg base (nm K) 1 (He.fAd K ("Live", some "is_over")) ps_Live_is_over fm_Live_is_over := by
  obtain ⟨fd, F⟩ := T.def_ (i := 20) (d := d_Live_is_over) rfl
  exact ⟨fd, gf_R F sc_Live_is_over (fun cdv A outer s H E hr tk hp => ((gss_one (gs_ret (gq_nin hr g_non (gix hr (gix hr (g_fld (T.clsOk (i := 121) rfl) (T.noat (i := 135) rfl) rfl (g_var 0)) (g_neg g_int)) g_int)))) : GSs _ _ _ (defBody s_Live_is_over) m_Live_is_over)), F.bindsN (fun _ _ _ _ _ _ us hl => match us, hl with | [_], _ => rfl), F.kp⟩
abbrev s_raw_ends : Stmt := top 29
abbrev ns_raw_ends : List Str := ["net", "last"]
abbrev ps_raw_ends : List Str := ["net"]
theorem sc_raw_ends : FnScope ns_raw_ends ps_raw_ends (defScope s_raw_ends) := ⟨rfl, rfl, rfl, by decide +kernel, rfl, by decide +kernel, by decide +kernel⟩
theorem ok_raw_ends (T : Tp K mg) : GFx P w K mg base (nm K) 1 (He.fAd K ("raw_ends", none)) ps_raw_ends fm_raw_ends := by
  obtain ⟨fd, F⟩ := T.def_ (i := 21) (d := d_raw_ends) rfl
  exact ⟨fd, gf_P F sc_raw_ends (fun cdv A outer s H E hr tk hp => ((gss_one (gs_ret (gb_tuple (T.free (i := 109) rfl) (gb_sorted rfl hr (T.free (i := 108) rfl) (g_lc (own := [("last", 1)]) rfl sc_raw_ends.nd (gi_seq (gix hr (g_var 0) g_int)) (blkOk_by (by rfl)) (by decide) (fun _ _ _ _ _ => (gp_name (i := 1) sc_raw_ends.nd)) (fun _ _ _ _ _ => ptsG_nil) (fun _ _ _ _ _ => (gix hr (g_var 1) g_int))))))) : GSs _ _ _ (defBody s_raw_ends) m_raw_ends)), F.bindsN (fun _ _ _ _ _ _ us hl => match us, hl with | [_], _ => rfl), F.kp⟩
abbrev s_raw_ours : Stmt := top 30
abbrev ns_raw_ours : List Str := ["net", "ends", "event"]
abbrev ps_raw_ours : List Str := ["net"]
theorem sc_raw_ours : FnScope ns_raw_ours ps_raw_ours (defScope s_raw_ours) := ⟨rfl, rfl, rfl, by decide +kernel, rfl, by decide +kernel, by decide +kernel⟩
theorem ok_raw_ours (T : Tp K mg) : GFx P w K mg base (nm K) 2 (He.fAd K ("raw_ours", none)) ps_raw_ours fm_raw_ours := by
  obtain ⟨fd, F⟩ := T.def_ (i := 22) (d := d_raw_ours) rfl
  exact ⟨fd, gf_P F sc_raw_ours (fun cdv A outer s H E hr tk hp => ((gss_cons (gs_set (gc1 (T.glo (i := 26) rfl) (ok_raw_ends T) (by decide) tk hr (g_var 0)) (gp_name (i := 1) sc_raw_ours.nd))
    (gss_one (gs_ret (gb_tuple (T.free (i := 109) rfl) (g_lc (own := [("event", 2)]) rfl sc_raw_ours.nd (gi_range2 g_int (gix hr (g_var 0) g_int) (T.free (i := 107) rfl)) (blkOk_by (by rfl)) (by decide) (fun _ _ _ _ _ => (gp_name (i := 2) sc_raw_ours.nd)) (fun _ _ _ _ _ => (ptsG_one (gtq_nin hr (g_var 2) (g_var 1)))) (fun _ _ _ _ _ => (g_var 2))))))) : GSs _ _ _ (defBody s_raw_ours) m_raw_ours)), F.bindsN (fun _ _ _ _ _ _ us hl => match us, hl with | [_], _ => rfl), F.kp⟩
abbrev s_raw_is_place : Stmt := top 66
abbrev ns_raw_is_place : List Str := ["net", "thing", "minute", "times", "a", "low", "high", "c", "event", "one"]
abbrev ps_raw_is_place : List Str := ["net", "thing"]
theorem sc_raw_is_place : FnScope ns_raw_is_place ps_raw_is_place (defScope s_raw_is_place) := ⟨rfl, rfl, rfl, by decide +kernel, rfl, by decide +kernel, by decide +kernel⟩
theorem ok_raw_is_place (T : Tp K mg) : GFx P w K mg base (nm K) 3 (He.fAd K ("raw_is_place", none)) ps_raw_is_place fm_raw_is_place := by
  obtain ⟨fd, F⟩ := T.def_ (i := 23) (d := d_raw_is_place) rfl
  exact ⟨fd, gf_P F sc_raw_is_place (fun cdv A outer s H E hr tk hp => ((gss_cons (gs_if (gt_w (gw_or (gt_not (gt_tr (gc3 (T.glo (i := 10) rfl) (ok_is_sized T) (by decide) tk hr (g_var 1) g_int g_int))) (gw_or (gt_not (gt_tr (gc1 (T.glo (i := 8) rfl) (ok_is_int T) (by decide) tk hr (gix hr (g_var 1) g_int)))) (gw_or1 (gtq_lt hr (gix hr (g_var 1) g_int) g_int))))) (gss_one (gs_ret g_bl)) gss_nil)
    (gss_cons (gs_set (g_var 1) (gp_tup rfl (gps_cons (gp_name (i := 2) sc_raw_is_place.nd) (gps_cons (gp_name (i := 3) sc_raw_is_place.nd) gps_nil)) rfl))
    (gss_cons (gs_if (gt_w (gw_or (gt_not (gt_tr (gc3 (T.glo (i := 10) rfl) (ok_is_sized T) (by decide) tk hr (g_var 3) (gix hr (g_var 0) g_int) (gix hr (g_var 0) g_int)))) (gw_or1 (gt_not (gt_tr (gc3 (T.glo (i := 9) rfl) (ok_is_within T) (by decide) tk hr (gix hr (g_var 3) g_int) g_int g_int)))))) (gss_one (gs_ret g_bl)) gss_nil)
    (gss_cons (gs_if (gt_not (gt_tr (gb_all rfl (T.free (i := 97) rfl) (g_lc (own := [("one", 9)]) rfl sc_raw_is_place.nd (gi_seq (g_var 3)) (blkOk_by (by rfl)) (by decide) (fun _ _ _ _ _ => (gp_name (i := 9) sc_raw_is_place.nd)) (fun _ _ _ _ _ => ptsG_nil) (fun _ _ _ _ _ => (g_or (g_isN (g_var 9)) (g_one (gc3 (T.glo (i := 9) rfl) (ok_is_within T) (by decide) Takes.wf hr (g_var 9) g_int (g_var 2))))))))) (gss_one (gs_ret g_bl)) gss_nil)
    (gss_cons (gs_if (gt_tr (gb_any rfl (T.free (i := 98) rfl) (g_lc (own := [("event", 8)]) rfl sc_raw_is_place.nd (gi_seq (gc1 (T.glo (i := 27) rfl) (ok_raw_ours T) (by decide) tk hr (g_var 0))) (blkOk_by (by rfl)) (by decide) (fun _ _ _ _ _ => (gp_name (i := 8) sc_raw_is_place.nd)) (fun _ _ _ _ _ => ptsG_nil) (fun _ _ _ _ _ => (gq_eq hr (gix hr (g_var 3) (g_var 8)) (g_var 2)))))) (gss_one (gs_ret g_bl)) gss_nil)
    (gss_cons (gs_for hp rfl (gi_seq (gix hr (g_var 0) g_int)) (gp_tup rfl (gps_cons (gp_name (i := 4) sc_raw_is_place.nd) (gps_cons (gp_name (i := 5) sc_raw_is_place.nd) (gps_cons (gp_name (i := 6) sc_raw_is_place.nd) (gps_cons (gp_name (i := 7) sc_raw_is_place.nd) gps_nil)))) rfl) (gss_cons (gs_if (gt_w (gw_and (gt_notN (gix hr (g_var 3) (g_var 7))) (gw_and1 (gt_w (gw_or (gt_isN (gix hr (g_var 3) (g_var 4))) (gw_or1 (gt_not (gtq_le_le (g_var 5) (gp_sub (gix hr (g_var 3) (g_var 7)) (gix hr (g_var 3) (g_var 4))) (g_var 6))))))))) (gss_one (gs_ret g_bl)) gss_nil)
    (gss_one (gs_if (gt_w (gw_and (gt_isN (gix hr (g_var 3) (g_var 7))) (gw_and (gt_notN (gix hr (g_var 3) (g_var 4))) (gw_and1 (gtq_ge (gp_sub (g_var 2) (gix hr (g_var 3) (g_var 4))) (g_var 6)))))) (gss_one (gs_ret g_bl)) gss_nil))))
    (gss_one (gs_ret g_bl)))))))) : GSs _ _ _ (defBody s_raw_is_place) m_raw_is_place)), F.bindsN (fun _ _ _ _ _ _ us hl => match us, hl with | [_, _], _ => rfl), F.kp⟩
abbrev s_check_place : Stmt := top 67
abbrev ns_check_place : List Str := ["net", "place"]
abbrev ps_check_place : List Str := ["net", "place"]
theorem sc_check_place : FnScope ns_check_place ps_check_place (defScope s_check_place) := ⟨rfl, rfl, rfl, by decide +kernel, rfl, by decide +kernel, by decide +kernel⟩
theorem ok_check_place (T : Tp K mg) : GFx P w K mg base (nm K) 7 (He.fAd K ("check_place", none)) ps_check_place fm_check_place := by
  obtain ⟨fd, F⟩ := T.def_ (i := 24) (d := d_check_place) rfl
  exact ⟨fd, gf_P F sc_check_place (fun cdv A outer s H E hr tk hp => ((gss_cons (gs_expr (gc1 (T.glo (i := 25) rfl) (ok_check_net T) (by decide) tk hr (g_var 0)))
    (gss_one (gs_if (gt_not (gt_tr (gc2 (T.glo (i := 59) rfl) (ok_raw_is_place T) (by decide) tk hr (g_var 0) (g_var 1)))) (gss_one (gs_raise0 (c := 2) rfl tk excBase_ValueError (T.exc (i := 137) rfl).1 (T.glo (i := 3) rfl) (T.exc (i := 137) rfl).2.1 (raises_own (T.exc (i := 137) rfl).2.2.1 (T.exc (i := 137) rfl).2.2.2))) gss_nil))) : GSs _ _ _ (defBody s_check_place) m_check_place)), F.bindsN (fun _ _ _ _ _ _ us hl => match us, hl with | [_, _], _ => rfl), F.kp⟩
abbrev s_is_lot : Stmt := top 14
abbrev ns_is_lot : List Str := ["thing", "many", "one"]
abbrev ps_is_lot : List Str := ["thing", "many"]
theorem sc_is_lot : FnScope ns_is_lot ps_is_lot (defScope s_is_lot) := ⟨rfl, rfl, rfl, by decide +kernel, rfl, by decide +kernel, by decide +kernel⟩
theorem ok_is_lot (T : Tp K mg) : GFx P w K mg base (nm K) 3 (He.fAd K ("is_lot", none)) ps_is_lot fm_is_lot := by
  obtain ⟨fd, F⟩ := T.def_ (i := 25) (d := d_is_lot) rfl
  exact ⟨fd, gf_P F sc_is_lot (fun cdv A outer s H E hr tk hp => ((gss_cons (gs_if (gt_w (gw_or (gt_not (gt_tr (gb_is_tuple (T.free (i := 102) rfl) (T.free (i := 109) rfl) (g_var 0)))) (gw_or1 (gt_not (gt_tr (gb_all rfl (T.free (i := 97) rfl) (g_lc (own := [("one", 2)]) rfl sc_is_lot.nd (gi_seq (g_var 0)) (blkOk_by (by rfl)) (by decide) (fun _ _ _ _ _ => (gp_name (i := 2) sc_is_lot.nd)) (fun _ _ _ _ _ => ptsG_nil) (fun _ _ _ _ _ => (gc3 (T.glo (i := 9) rfl) (ok_is_within T) (by decide) Takes.wf hr (g_var 2) g_int (gp_sub (g_var 1) g_int)))))))))) (gss_one (gs_ret g_bl)) gss_nil)
    (gss_one (gs_ret (gc1 (T.glo (i := 11) rfl) (ok_is_rising T) (by decide) tk hr (g_var 0))))) : GSs _ _ _ (defBody s_is_lot) m_is_lot)), F.bindsN (fun _ _ _ _ _ _ us hl => match us, hl with | [_, _], _ => rfl), F.kp⟩
abbrev s_raw_left : Stmt := top 65
abbrev ns_raw_left : List Str := ["net", "times", "event"]
abbrev ps_raw_left : List Str := ["net", "times"]
theorem sc_raw_left : FnScope ns_raw_left ps_raw_left (defScope s_raw_left) := ⟨rfl, rfl, rfl, by decide +kernel, rfl, by decide +kernel, by decide +kernel⟩
theorem ok_raw_left (T : Tp K mg) : GFx P w K mg base (nm K) 3 (He.fAd K ("raw_left", none)) ps_raw_left fm_raw_left := by
  obtain ⟨fd, F⟩ := T.def_ (i := 26) (d := d_raw_left) rfl
  exact ⟨fd, gf_P F sc_raw_left (fun cdv A outer s H E hr tk hp => ((gss_one (gs_ret (g_lc (own := [("event", 2)]) rfl sc_raw_left.nd (gi_seq (gc1 (T.glo (i := 27) rfl) (ok_raw_ours T) (by decide) tk hr (g_var 0))) (blkOk_by (by rfl)) (by decide) (fun _ _ _ _ _ => (gp_name (i := 2) sc_raw_left.nd)) (fun _ _ _ _ _ => (ptsG_one (gt_isN (gix hr (g_var 1) (g_var 2))))) (fun _ _ _ _ _ => (g_var 2))))) : GSs _ _ _ (defBody s_raw_left) m_raw_left)), F.bindsN (fun _ _ _ _ _ _ us hl => match us, hl with | [_, _], _ => rfl), F.kp⟩
abbrev s_check_lot : Stmt := top 68
abbrev ns_check_lot : List Str := ["net", "times", "lot", "one"]
abbrev ps_check_lot : List Str := ["net", "times", "lot"]
theorem sc_check_lot : FnScope ns_check_lot ps_check_lot (defScope s_check_lot) := ⟨rfl, rfl, rfl, by decide +kernel, rfl, by decide +kernel, by decide +kernel⟩
theorem ok_check_lot (T : Tp K mg) : GFx P w K mg base (nm K) 4 (He.fAd K ("check_lot", none)) ps_check_lot fm_check_lot := by
  obtain ⟨fd, F⟩ := T.def_ (i := 27) (d := d_check_lot) rfl
  exact ⟨fd, gf_P F sc_check_lot (fun cdv A outer s H E hr tk hp => ((gss_one (gs_if (gt_w (gw_or (gt_not (gt_tr (gc2 (T.glo (i := 12) rfl) (ok_is_lot T) (by decide) tk hr (g_var 2) (gix hr (g_var 0) g_int)))) (gw_or1 (gt_not (gt_tr (gb_all rfl (T.free (i := 97) rfl) (g_lc (own := [("one", 3)]) rfl sc_check_lot.nd (gi_seq (g_var 2)) (blkOk_by (by rfl)) (by decide) (fun _ _ _ _ _ => (gp_name (i := 3) sc_check_lot.nd)) (fun _ _ _ _ _ => ptsG_nil) (fun _ _ _ _ _ => (gq_in hr (g_var 3) (gc2 (T.glo (i := 58) rfl) (ok_raw_left T) (by decide) Takes.wf hr (g_var 0) (g_var 1))))))))))) (gss_one (gs_raise0 (c := 3) rfl tk excBase_ValueError (T.exc (i := 138) rfl).1 (T.glo (i := 4) rfl) (T.exc (i := 138) rfl).2.1 (raises_own (T.exc (i := 138) rfl).2.2.1 (T.exc (i := 138) rfl).2.2.2))) gss_nil)) : GSs _ _ _ (defBody s_check_lot) m_check_lot)), F.bindsN (fun _ _ _ _ _ _ us hl => match us, hl with | [_, _, _], _ => rfl), F.kp⟩
abbrev s_lots_from : Stmt := top 61
abbrev ns_lots_from : List Str := ["some", "found", "one", "lot"]
abbrev ps_lots_from : List Str := ["some"]
theorem sc_lots_from : FnScope ns_lots_from ps_lots_from (defScope s_lots_from) := ⟨rfl, rfl, rfl, by decide +kernel, rfl, by decide +kernel, by decide +kernel⟩
theorem ok_lots_from (T : Tp K mg) : GFx P w K mg base (nm K) 1 (He.fAd K ("lots_from", none)) ps_lots_from fm_lots_from := by
  obtain ⟨fd, F⟩ := T.def_ (i := 28) (d := d_lots_from) rfl
  exact ⟨fd, gf_P F sc_lots_from (fun cdv A outer s H E hr tk hp => ((gss_cons (gs_set (g_lst (ga_cons (g_tup ga_nil) ga_nil)) (gp_name (i := 1) sc_lots_from.nd))
    (gss_cons (gs_for hp rfl (gi_seq (g_var 0)) (gp_name (i := 2) sc_lots_from.nd) (gss_one (gs_set (gp_add (g_var 1) (g_lc (own := [("lot", 3)]) rfl sc_lots_from.nd (gi_seq (g_var 1)) (blkOk_by (by rfl)) (by decide) (fun _ _ _ _ _ => (gp_name (i := 3) sc_lots_from.nd)) (fun _ _ _ _ _ => ptsG_nil) (fun _ _ _ _ _ => (gp_add (g_var 3) (g_tup (ga_cons (g_var 2) ga_nil)))))) (gp_name (i := 1) sc_lots_from.nd))))
    (gss_one (gs_ret (gb_sorted rfl hr (T.free (i := 108) rfl) (g_var 1)))))) : GSs _ _ _ (defBody s_lots_from) m_lots_from)), F.bindsN (fun _ _ _ _ _ _ us hl => match us, hl with | [_], _ => rfl), F.kp⟩
abbrev s_ends_at : Stmt := top 62
abbrev ns_ends_at : List Str := ["net", "times", "minute", "may", "must", "a", "low", "high", "c", "lot"]
abbrev ps_ends_at : List Str := ["net", "times", "minute"]
theorem sc_ends_at : FnScope ns_ends_at ps_ends_at (defScope s_ends_at) := ⟨rfl, rfl, rfl, by decide +kernel, rfl, by decide +kernel, by decide +kernel⟩
theorem ok_ends_at (T : Tp K mg) : GFx P w K mg base (nm K) 2 (He.fAd K ("ends_at", none)) ps_ends_at fm_ends_at := by
  obtain ⟨fd, F⟩ := T.def_ (i := 29) (d := d_ends_at) rfl
  exact ⟨fd, gf_P F sc_ends_at (fun cdv A outer s H E hr tk hp => ((gss_cons (gs_set (g_tup (ga_cons (g_lstN ga_nil) (ga_cons (g_lstN ga_nil) ga_nil))) (gp_tup rfl (gps_cons (gp_name (i := 3) sc_ends_at.nd) (gps_cons (gp_name (i := 4) sc_ends_at.nd) gps_nil)) rfl))
    (gss_cons (gs_for hp rfl (gi_seq (gix hr (g_var 0) g_int)) (gp_tup rfl (gps_cons (gp_name (i := 5) sc_ends_at.nd) (gps_cons (gp_name (i := 6) sc_ends_at.nd) (gps_cons (gp_name (i := 7) sc_ends_at.nd) (gps_cons (gp_name (i := 8) sc_ends_at.nd) gps_nil)))) rfl) (gss_one (gs_if (gt_w (gw_and (gt_isN (gix hr (g_var 1) (g_var 8))) (gw_and (gt_notN (gix hr (g_var 1) (g_var 5))) (gw_and1 (gtq_le_le (g_var 6) (gp_sub (g_var 2) (gix hr (g_var 1) (g_var 5))) (g_var 7)))))) (gss_one (gs_if (gtq_eq hr (gp_sub (g_var 2) (gix hr (g_var 1) (g_var 5))) (g_var 7)) (gss_one (gs_expr (g_append (g_var 4) (g_var 8)))) (gss_one (gs_expr (g_append (g_var 3) (g_var 8)))))) gss_nil)))
    (gss_one (gs_ret (gb_sorted rfl hr (T.free (i := 108) rfl) (g_lc (own := [("lot", 9)]) rfl sc_ends_at.nd (gi_seq (gc1 (T.glo (i := 54) rfl) (ok_lots_from T) (by decide) tk hr (gb_sorted rfl hr (T.free (i := 108) rfl) (g_var 3)))) (blkOk_by (by rfl)) (by decide) (fun _ _ _ _ _ => (gp_name (i := 9) sc_ends_at.nd)) (fun _ _ _ _ _ => ptsG_nil) (fun _ _ _ _ _ => (gb_tuple (T.free (i := 109) rfl) (gb_sorted rfl hr (T.free (i := 108) rfl) (gp_add (gb_list rfl (T.free (i := 104) rfl) (g_var 9)) (g_var 4))))))))))) : GSs _ _ _ (defBody s_ends_at) m_ends_at)), F.bindsN (fun _ _ _ _ _ _ us hl => match us, hl with | [_, _, _], _ => rfl), F.kp⟩
abbrev s_with_come : Stmt := top 63
abbrev ns_with_come : List Str := ["times", "lot", "minute", "event", "time"]
abbrev ps_with_come : List Str := ["times", "lot", "minute"]
theorem sc_with_come : FnScope ns_with_come ps_with_come (defScope s_with_come) := ⟨rfl, rfl, rfl, by decide +kernel, rfl, by decide +kernel, by decide +kernel⟩
theorem ok_with_come (T : Tp K mg) : GFx P w K mg base (nm K) 1 (He.fAd K ("with_come", none)) ps_with_come fm_with_come := by
  obtain ⟨fd, F⟩ := T.def_ (i := 30) (d := d_with_come) rfl
  exact ⟨fd, gf_P F sc_with_come (fun cdv A outer s H E hr tk hp => ((gss_one (gs_ret (gb_tuple (T.free (i := 109) rfl) (g_lc (own := [("event", 3), ("time", 4)]) rfl sc_with_come.nd (gi_enum (g_var 0) (T.free (i := 100) rfl)) (blkOk_by (by rfl)) (by decide) (fun _ _ _ _ _ => (gp_tup rfl (gps_cons (gp_name (i := 3) sc_with_come.nd) (gps_cons (gp_name (i := 4) sc_with_come.nd) gps_nil)) rfl)) (fun _ _ _ _ _ => ptsG_nil) (fun _ _ _ _ _ => (g_if (gtq_in hr (g_var 3) (g_var 1)) (g_var 2) (g_var 4))))))) : GSs _ _ _ (defBody s_with_come) m_with_come)), F.bindsN (fun _ _ _ _ _ _ us hl => match us, hl with | [_, _, _], _ => rfl), F.kp⟩
abbrev s_raw_ends_next : Stmt := top 69
abbrev ns_raw_ends_next : List Str := ["net", "place", "lot", "minute", "times"]
abbrev ps_raw_ends_next : List Str := ["net", "place", "lot"]
theorem sc_raw_ends_next : FnScope ns_raw_ends_next ps_raw_ends_next (defScope s_raw_ends_next) := ⟨rfl, rfl, rfl, by decide +kernel, rfl, by decide +kernel, by decide +kernel⟩
theorem ok_raw_ends_next (T : Tp K mg) : GFx P w K mg base (nm K) 3 (He.fAd K ("raw_ends_next", none)) ps_raw_ends_next fm_raw_ends_next := by
  obtain ⟨fd, F⟩ := T.def_ (i := 31) (d := d_raw_ends_next) rfl
  exact ⟨fd, gf_P F sc_raw_ends_next (fun cdv A outer s H E hr tk hp => ((gss_cons (gs_set (g_var 1) (gp_tup rfl (gps_cons (gp_name (i := 3) sc_raw_ends_next.nd) (gps_cons (gp_name (i := 4) sc_raw_ends_next.nd) gps_nil)) rfl))
    (gss_one (gs_ret (gb_tuple (T.free (i := 109) rfl) (gc3 (T.glo (i := 55) rfl) (ok_ends_at T) (by decide) tk hr (g_var 0) (gc3 (T.glo (i := 56) rfl) (ok_with_come T) (by decide) tk hr (g_var 4) (g_var 2) (g_var 3)) (gp_add (g_var 3) g_int)))))) : GSs _ _ _ (defBody s_raw_ends_next) m_raw_ends_next)), F.bindsN (fun _ _ _ _ _ _ us hl => match us, hl with | [_, _, _], _ => rfl), F.kp⟩
abbrev s_ends_next : Stmt := top 70
abbrev ns_ends_next : List Str := ["net", "place", "lot"]
abbrev ps_ends_next : List Str := ["net", "place", "lot"]
theorem sc_ends_next : FnScope ns_ends_next ps_ends_next (defScope s_ends_next) := ⟨rfl, rfl, rfl, by decide +kernel, rfl, by decide +kernel, by decide +kernel⟩
theorem ok_ends_next (T : Tp K mg) : GFx P w K mg base (nm K) 8 (He.fAd K ("ends_next", none)) ps_ends_next fm_ends_next := by
  obtain ⟨fd, F⟩ := T.def_ (i := 32) (d := d_ends_next) rfl
  exact ⟨fd, gf_P F sc_ends_next (fun cdv A outer s H E hr tk hp => ((gss_cons (gs_expr (gc2 (T.glo (i := 60) rfl) (ok_check_place T) (by decide) tk hr (g_var 0) (g_var 1)))
    (gss_cons (gs_expr (gc3 (T.glo (i := 61) rfl) (ok_check_lot T) (by decide) tk hr (g_var 0) (gix hr (g_var 1) g_int) (g_var 2)))
    (gss_one (gs_ret (gc3 (T.glo (i := 62) rfl) (ok_raw_ends_next T) (by decide) tk hr (g_var 0) (g_var 1) (g_var 2)))))) : GSs _ _ _ (defBody s_ends_next) m_ends_next)), F.bindsN (fun _ _ _ _ _ _ us hl => match us, hl with | [_, _, _], _ => rfl), F.kp⟩
abbrev s_raw_place_behind : Stmt := top 71
abbrev ns_raw_place_behind : List Str := ["place", "lot", "ends", "minute", "times"]
abbrev ps_raw_place_behind : List Str := ["place", "lot", "ends"]
theorem sc_raw_place_behind : FnScope ns_raw_place_behind ps_raw_place_behind (defScope s_raw_place_behind) := ⟨rfl, rfl, rfl, by decide +kernel, rfl, by decide +kernel, by decide +kernel⟩
theorem ok_raw_place_behind (T : Tp K mg) : GFx P w K mg base (nm K) 2 (He.fAd K ("raw_place_behind", none)) ps_raw_place_behind fm_raw_place_behind := by
  obtain ⟨fd, F⟩ := T.def_ (i := 33) (d := d_raw_place_behind) rfl
  exact ⟨fd, gf_P F sc_raw_place_behind (fun cdv A outer s H E hr tk hp => ((gss_cons (gs_set (g_var 0) (gp_tup rfl (gps_cons (gp_name (i := 3) sc_raw_place_behind.nd) (gps_cons (gp_name (i := 4) sc_raw_place_behind.nd) gps_nil)) rfl))
    (gss_one (gs_ret (g_tup (ga_cons (gp_add (g_var 3) g_int) (ga_cons (gc3 (T.glo (i := 56) rfl) (ok_with_come T) (by decide) tk hr (gc3 (T.glo (i := 56) rfl) (ok_with_come T) (by decide) tk hr (g_var 4) (g_var 1) (g_var 3)) (g_var 2) (gp_add (g_var 3) g_int)) ga_nil)))))) : GSs _ _ _ (defBody s_raw_place_behind) m_raw_place_behind)), F.bindsN (fun _ _ _ _ _ _ us hl => match us, hl with | [_, _, _], _ => rfl), F.kp⟩
abbrev s_raw_is_lot : Stmt := top 33
abbrev ns_raw_is_lot : List Str := ["net", "thing"]
abbrev ps_raw_is_lot : List Str := ["net", "thing"]
theorem sc_raw_is_lot : FnScope ns_raw_is_lot ps_raw_is_lot (defScope s_raw_is_lot) := ⟨rfl, rfl, rfl, by decide +kernel, rfl, by decide +kernel, by decide +kernel⟩
theorem ok_raw_is_lot (T : Tp K mg) : GFx P w K mg base (nm K) 4 (He.fAd K ("raw_is_lot", none)) ps_raw_is_lot fm_raw_is_lot := by
  obtain ⟨fd, F⟩ := T.def_ (i := 34) (d := d_raw_is_lot) rfl
  exact ⟨fd, gf_P F sc_raw_is_lot (fun cdv A outer s H E hr tk hp => ((gss_one (gs_ret (gc2 (T.glo (i := 12) rfl) (ok_is_lot T) (by decide) tk hr (g_var 1) (gix hr (g_var 0) g_int)))) : GSs _ _ _ (defBody s_raw_is_lot) m_raw_is_lot)), F.bindsN (fun _ _ _ _ _ _ us hl => match us, hl with | [_, _], _ => rfl), F.kp⟩
abbrev s_Live_go : Stmt := inClass (top 88) 4
abbrev ns_Live_go : List Str := ["self", "ends", "place"]
abbrev ps_Live_go : List Str := ["self", "ends"]
theorem sc_Live_go : FnScope ns_Live_go ps_Live_go (defScope s_Live_go) := ⟨rfl, rfl, rfl, by decide +kernel, rfl, by decide +kernel, by decide +kernel⟩
theorem ok_Live_go (T : Tp K mg) : GFx P w K mg base (nm K) 5 (He.fAd K ("Live", some "go")) ps_Live_go fm_Live_go := by
  obtain ⟨fd, F⟩ := T.def_ (i := 35) (d := d_Live_go) rfl
  exact ⟨fd, gf_R F sc_Live_go (fun cdv A outer s H E hr tk hp => ((gss_cons (gs_set (gix hr (g_fld (T.clsOk (i := 121) rfl) (T.noat (i := 135) rfl) rfl (g_var 0)) (g_neg g_int)) (gp_name (i := 2) sc_Live_go.nd))
    (gss_cons (gs_if (gt_w (gw_or (gt_not (gt_tr (gc2 (T.glo (i := 30) rfl) (ok_raw_is_lot T) (by decide) tk hr (g_fld (T.clsOk (i := 121) rfl) (T.noat (i := 134) rfl) rfl (g_var 0)) (g_var 1)))) (gw_or1 (gtq_nin hr (g_var 1) (gc3 (T.glo (i := 62) rfl) (ok_raw_ends_next T) (by decide) tk hr (g_fld (T.clsOk (i := 121) rfl) (T.noat (i := 134) rfl) rfl (g_var 0)) (g_var 2) (g_tup ga_nil)))))) (gss_one (gs_raise0 (c := 3) rfl tk excBase_ValueError (T.exc (i := 138) rfl).1 (T.glo (i := 4) rfl) (T.exc (i := 138) rfl).2.1 (raises_own (T.exc (i := 138) rfl).2.2.1 (T.exc (i := 138) rfl).2.2.2))) gss_nil)
    (gss_one (gs_expr (g_append (g_fld (T.clsOk (i := 121) rfl) (T.noat (i := 135) rfl) rfl (g_var 0)) (gc3 (T.glo (i := 64) rfl) (ok_raw_place_behind T) (by decide) tk hr (g_var 2) (g_tup ga_nil) (g_var 1))))))) : GSs _ _ _ (defBody s_Live_go) m_Live_go)), F.bindsN (fun _ _ _ _ _ _ us hl => match us, hl with | [_, _], _ => rfl), F.kp⟩
abbrev s_Audit___init__ : Stmt := inClass (top 78) 0
abbrev ns_Audit___init__ : List Str := ["self", "net"]
abbrev ps_Audit___init__ : List Str := ["self", "net"]
theorem sc_Audit___init__ : FnScope ns_Audit___init__ ps_Audit___init__ (defScope s_Audit___init__) := ⟨rfl, rfl, rfl, by decide +kernel, rfl, by decide +kernel, by decide +kernel⟩
theorem ok_Audit___init__ (T : Tp K mg) : GFx P w K mg base (nm K) 1 (He.fAd K ("Audit", some "__init__")) ps_Audit___init__ fm_Audit___init__ := by
  obtain ⟨fd, F⟩ := T.def_ (i := 36) (d := d_Audit___init__) rfl
  exact ⟨fd, gf_R F sc_Audit___init__ (fun cdv A outer s H E hr tk hp => ((gss_cons (gs_setT (g_tup (ga_cons (g_var 1) (ga_cons g_int ga_nil))) (gt_tup rfl (gts_cons (gt_fld (T.clsOk (i := 111) rfl) (T.noat (i := 119) rfl) rfl (g_var 0)) (gts_cons (gt_fld (T.clsOk (i := 111) rfl) (T.noat (i := 118) rfl) rfl (g_var 0)) gts_nil)) rfl))
    (gss_one (gs_setT (gp_addT (g_lst (ga_cons g_int ga_nil)) (gp_mul (g_lst (ga_cons g_non ga_nil)) (gp_sub (gix hr (g_var 1) g_int) g_int))) (gt_fld (T.clsOk (i := 111) rfl) (T.noat (i := 120) rfl) rfl (g_var 0))))) : GSs _ _ _ (defBody s_Audit___init__) m_Audit___init__)), F.bindsN (fun _ _ _ _ _ _ us hl => match us, hl with | [_, _], _ => rfl), F.kp⟩
abbrev s_Audit_is_over : Stmt := inClass (top 78) 1
abbrev ns_Audit_is_over : List Str := ["self"]
abbrev ps_Audit_is_over : List Str := ["self"]
theorem sc_Audit_is_over : FnScope ns_Audit_is_over ps_Audit_is_over (defScope s_Audit_is_over) := ⟨rfl, rfl, rfl, by decide +kernel, rfl, by decide +kernel, by decide +kernel⟩
theorem ok_Audit_is_over (T : Tp K mg) : GFx P w K mg base (nm K) 1 (He.fAd K ("Audit", some "is_over")) ps_Audit_is_over fm_Audit_is_over := by
  obtain ⟨fd, F⟩ := T.def_ (i := 37) (d := d_Audit_is_over) rfl
  exact ⟨fd, gf_R F sc_Audit_is_over (fun cdv A outer s H E hr tk hp => ((gss_one (gs_ret (gq_nin hr g_non (g_fld (T.clsOk (i := 111) rfl) (T.noat (i := 120) rfl) rfl (g_var 0))))) : GSs _ _ _ (defBody s_Audit_is_over) m_Audit_is_over)), F.bindsN (fun _ _ _ _ _ _ us hl => match us, hl with | [_], _ => rfl), F.kp⟩
abbrev s_raw_all_bounds : Stmt := top 31
abbrev ns_raw_all_bounds : List Str := ["net", "found", "a", "low", "high", "c", "event"]
abbrev ps_raw_all_bounds : List Str := ["net"]
theorem sc_raw_all_bounds : FnScope ns_raw_all_bounds ps_raw_all_bounds (defScope s_raw_all_bounds) := ⟨rfl, rfl, rfl, by decide +kernel, rfl, by decide +kernel, by decide +kernel⟩
theorem ok_raw_all_bounds (T : Tp K mg) : GFx P w K mg base (nm K) 1 (He.fAd K ("raw_all_bounds", none)) ps_raw_all_bounds fm_raw_all_bounds := by
  obtain ⟨fd, F⟩ := T.def_ (i := 38) (d := d_raw_all_bounds) rfl
  exact ⟨fd, gf_P F sc_raw_all_bounds (fun cdv A outer s H E hr tk hp => ((gss_cons (gs_set (gb_list rfl (T.free (i := 104) rfl) (gix hr (g_var 0) g_int)) (gp_name (i := 1) sc_raw_all_bounds.nd))
    (gss_cons (gs_for hp rfl (gi_seq (gix hr (g_var 0) g_int)) (gp_tup rfl (gps_cons (gp_name (i := 2) sc_raw_all_bounds.nd) (gps_cons (gp_name (i := 3) sc_raw_all_bounds.nd) (gps_cons (gp_name (i := 4) sc_raw_all_bounds.nd) (gps_cons (gp_name (i := 5) sc_raw_all_bounds.nd) gps_nil)))) rfl) (gss_one (gs_set (gp_add (g_var 1) (g_lst (ga_cons (g_tup (ga_cons (g_var 2) (ga_cons (g_var 5) (ga_cons (g_var 4) ga_nil)))) (ga_cons (g_tup (ga_cons (g_var 5) (ga_cons (g_var 2) (ga_cons (gp_sub g_int (g_var 3)) ga_nil)))) ga_nil)))) (gp_name (i := 1) sc_raw_all_bounds.nd))))
    (gss_one (gs_ret (gb_tuple (T.free (i := 109) rfl) (gp_add (g_var 1) (g_lc (own := [("event", 6)]) rfl sc_raw_all_bounds.nd (gi_range2 g_int (gix hr (g_var 0) g_int) (T.free (i := 107) rfl)) (blkOk_by (by rfl)) (by decide) (fun _ _ _ _ _ => (gp_name (i := 6) sc_raw_all_bounds.nd)) (fun _ _ _ _ _ => ptsG_nil) (fun _ _ _ _ _ => (g_tup (ga_cons (g_var 6) (ga_cons g_int (ga_cons g_int ga_nil)))))))))))) : GSs _ _ _ (defBody s_raw_all_bounds) m_raw_all_bounds)), F.bindsN (fun _ _ _ _ _ _ us hl => match us, hl with | [_], _ => rfl), F.kp⟩
abbrev s_raw_broken : Stmt := top 32
abbrev ns_raw_broken : List Str := ["net", "times", "found", "number", "i", "j", "w"]
abbrev ps_raw_broken : List Str := ["net", "times"]
theorem sc_raw_broken : FnScope ns_raw_broken ps_raw_broken (defScope s_raw_broken) := ⟨rfl, rfl, rfl, by decide +kernel, rfl, by decide +kernel, by decide +kernel⟩
theorem ok_raw_broken (T : Tp K mg) : GFx P w K mg base (nm K) 2 (He.fAd K ("raw_broken", none)) ps_raw_broken fm_raw_broken := by
  obtain ⟨fd, F⟩ := T.def_ (i := 39) (d := d_raw_broken) rfl
  exact ⟨fd, gf_R F sc_raw_broken (fun cdv A outer s H E hr tk hp => ((gss_cons (gs_set (g_lstN ga_nil) (gp_name (i := 2) sc_raw_broken.nd))
    (gss_cons (gs_for hp rfl (gi_enum (gc1 (T.glo (i := 28) rfl) (ok_raw_all_bounds T) (by decide) tk hr (g_var 0)) (T.free (i := 100) rfl)) (gp_tup rfl (gps_cons (gp_name (i := 3) sc_raw_broken.nd) (gps_cons (gp_tup rfl (gps_cons (gp_name (i := 4) sc_raw_broken.nd) (gps_cons (gp_name (i := 5) sc_raw_broken.nd) (gps_cons (gp_name (i := 6) sc_raw_broken.nd) gps_nil))) rfl) gps_nil)) rfl) (gss_one (gs_if (gt_w (gw_and (gt_notN (gix hr (g_var 1) (g_var 4))) (gw_and (gt_notN (gix hr (g_var 1) (g_var 5))) (gw_and1 (gtq_gt (gp_sub (gix hr (g_var 1) (g_var 5)) (gix hr (g_var 1) (g_var 4))) (g_var 6)))))) (gss_one (gs_expr (g_append (g_var 2) (g_var 3)))) gss_nil)))
    (gss_one (gs_ret (gb_tuple (T.free (i := 109) rfl) (g_var 2)))))) : GSs _ _ _ (defBody s_raw_broken) m_raw_broken)), F.bindsN (fun _ _ _ _ _ _ us hl => match us, hl with | [_, _], _ => rfl), F.kp⟩
abbrev s_Audit_left : Stmt := inClass (top 78) 2
abbrev ns_Audit_left : List Str := ["self", "events", "event"]
abbrev ps_Audit_left : List Str := ["self", "events"]
theorem sc_Audit_left : FnScope ns_Audit_left ps_Audit_left (defScope s_Audit_left) := ⟨rfl, rfl, rfl, by decide +kernel, rfl, by decide +kernel, by decide +kernel⟩
theorem ok_Audit_left (T : Tp K mg) : GFx P w K mg base (nm K) 1 (He.fAd K ("Audit", some "left")) ps_Audit_left fm_Audit_left := by
  obtain ⟨fd, F⟩ := T.def_ (i := 40) (d := d_Audit_left) rfl
  exact ⟨fd, gf_R F sc_Audit_left (fun cdv A outer s H E hr tk hp => ((gss_one (gs_ret (g_lc (own := [("event", 2)]) rfl sc_Audit_left.nd (gi_seq (g_var 1)) (blkOk_by (by rfl)) (by decide) (fun _ _ _ _ _ => (gp_name (i := 2) sc_Audit_left.nd)) (fun _ _ _ _ _ => (ptsG_one (gt_isN (gix hr (g_fld (T.clsOk (i := 111) rfl) (T.noat (i := 120) rfl) rfl (g_var 0)) (g_var 2))))) (fun _ _ _ _ _ => (g_var 2))))) : GSs _ _ _ (defBody s_Audit_left) m_Audit_left)), F.bindsN (fun _ _ _ _ _ _ us hl => match us, hl with | [_, _], _ => rfl), F.kp⟩
abbrev s_Audit_can_end : Stmt := inClass (top 78) 3
abbrev ns_Audit_can_end : List Str := ["self", "minute", "lot", "may", "must", "a", "low", "high", "c", "end"]
abbrev ps_Audit_can_end : List Str := ["self", "minute", "lot"]
theorem sc_Audit_can_end : FnScope ns_Audit_can_end ps_Audit_can_end (defScope s_Audit_can_end) := ⟨rfl, rfl, rfl, by decide +kernel, rfl, by decide +kernel, by decide +kernel⟩
theorem ok_Audit_can_end (T : Tp K mg) : GFx P w K mg base (nm K) 1 (He.fAd K ("Audit", some "can_end")) ps_Audit_can_end fm_Audit_can_end := by
  obtain ⟨fd, F⟩ := T.def_ (i := 41) (d := d_Audit_can_end) rfl
  exact ⟨fd, gf_R F sc_Audit_can_end (fun cdv A outer s H E hr tk hp => ((gss_cons (gs_set (g_tup (ga_cons (g_lstN ga_nil) (ga_cons (g_lstN ga_nil) ga_nil))) (gp_tup rfl (gps_cons (gp_name (i := 3) sc_Audit_can_end.nd) (gps_cons (gp_name (i := 4) sc_Audit_can_end.nd) gps_nil)) rfl))
    (gss_cons (gs_for hp rfl (gi_seq (gix hr (g_fld (T.clsOk (i := 111) rfl) (T.noat (i := 119) rfl) rfl (g_var 0)) g_int)) (gp_tup rfl (gps_cons (gp_name (i := 5) sc_Audit_can_end.nd) (gps_cons (gp_name (i := 6) sc_Audit_can_end.nd) (gps_cons (gp_name (i := 7) sc_Audit_can_end.nd) (gps_cons (gp_name (i := 8) sc_Audit_can_end.nd) gps_nil)))) rfl) (gss_one (gs_if (gt_w (gw_and (gt_isN (gix hr (g_fld (T.clsOk (i := 111) rfl) (T.noat (i := 120) rfl) rfl (g_var 0)) (g_var 8))) (gw_and (gt_notN (gix hr (g_fld (T.clsOk (i := 111) rfl) (T.noat (i := 120) rfl) rfl (g_var 0)) (g_var 5))) (gw_and1 (gtq_ge (gp_sub (g_var 1) (gix hr (g_fld (T.clsOk (i := 111) rfl) (T.noat (i := 120) rfl) rfl (g_var 0)) (g_var 5))) (g_var 6)))))) (gss_cons (gs_expr (g_append (g_var 3) (g_var 8)))
    (gss_one (gs_expr (g_extend (g_var 4) (g_if (gtq_ge (gp_sub (g_var 1) (gix hr (g_fld (T.clsOk (i := 111) rfl) (T.noat (i := 120) rfl) rfl (g_var 0)) (g_var 5))) (g_var 7)) (g_lst (ga_cons (g_var 8) ga_nil)) (g_lst ga_nil)))))) gss_nil)))
    (gss_one (gs_ret (g_and (gb_all rfl (T.free (i := 97) rfl) (g_lc (own := [("end", 9)]) rfl sc_Audit_can_end.nd (gi_seq (g_var 2)) (blkOk_by (by rfl)) (by decide) (fun _ _ _ _ _ => (gp_name (i := 9) sc_Audit_can_end.nd)) (fun _ _ _ _ _ => ptsG_nil) (fun _ _ _ _ _ => (gq_in hr (g_var 9) (g_var 3))))) (g_one (gb_all rfl (T.free (i := 97) rfl) (g_lcS (own := [("end", 9)]) rfl sc_Audit_can_end.nd (g_var 4) (blkOk_by (by rfl)) (by decide) (fun _ _ _ _ _ => (gp_name (i := 9) sc_Audit_can_end.nd)) (fun _ _ _ _ _ => ptsG_nil) (fun _ _ _ _ _ => (gq_in hr (g_var 9) (g_var 2))))))))))) : GSs _ _ _ (defBody s_Audit_can_end) m_Audit_can_end)), F.bindsN (fun _ _ _ _ _ _ us hl => match us, hl with | [_, _, _], _ => rfl), F.kp⟩
abbrev s_Audit_takes : Stmt := inClass (top 78) 4
abbrev ns_Audit_takes : List Str := ["self", "entry", "minute", "many", "event", "ends", "ours", "end"]
abbrev ps_Audit_takes : List Str := ["self", "entry", "minute"]
theorem sc_Audit_takes : FnScope ns_Audit_takes ps_Audit_takes (defScope s_Audit_takes) := ⟨rfl, rfl, rfl, by decide +kernel, rfl, by decide +kernel, by decide +kernel⟩
theorem ok_Audit_takes (T : Tp K mg) : GFx P w K mg base (nm K) 4 (He.fAd K ("Audit", some "takes")) ps_Audit_takes fm_Audit_takes := by
  obtain ⟨fd, F⟩ := T.def_ (i := 42) (d := d_Audit_takes) rfl
  exact ⟨fd, gf_R F sc_Audit_takes (fun cdv A outer s H E hr tk hp => ((gss_cons (gs_set (gix hr (g_fld (T.clsOk (i := 111) rfl) (T.noat (i := 119) rfl) rfl (g_var 0)) g_int) (gp_name (i := 3) sc_Audit_takes.nd))
    (gss_cons (gs_if (gt_w (gw_or (gt_tr (gm0 (T.clsOk (i := 111) rfl) (T.meth (i := 114) rfl) (fnmL_neB (bad := []) (by decide)) (ok_Audit_is_over T) (by decide) tk hr (g_var 0) )) (gw_or (gt_not (gt_tr (gc3 (T.glo (i := 10) rfl) (ok_is_sized T) (by decide) tk hr (g_var 1) g_int g_int))) (gw_or1 (gt_not (gt_tr (gc3 (T.glo (i := 9) rfl) (ok_is_within T) (by decide) tk hr (gix hr (g_var 1) g_int) (g_var 2) (g_var 2)))))))) (gss_one (gs_ret g_bl)) gss_nil)
    (gss_cons (gs_if (gt_w (gw_or (gt_not (gt_tr (gc2 (T.glo (i := 12) rfl) (ok_is_lot T) (by decide) tk hr (gix hr (g_var 1) g_int) (g_var 3)))) (gw_or1 (gt_not (gt_tr (gc2 (T.glo (i := 12) rfl) (ok_is_lot T) (by decide) tk hr (gix hr (g_var 1) g_int) (g_var 3))))))) (gss_one (gs_ret g_bl)) gss_nil)
    (gss_cons (gs_set (g_tup (ga_cons (gm1 (T.clsOk (i := 111) rfl) (T.meth (i := 115) rfl) (fnmL_neB (bad := []) (by decide)) (ok_Audit_left T) (by decide) tk hr (g_var 0) (gc1 (T.glo (i := 26) rfl) (ok_raw_ends T) (by decide) tk hr (g_fld (T.clsOk (i := 111) rfl) (T.noat (i := 119) rfl) rfl (g_var 0)))) (ga_cons (gm1 (T.clsOk (i := 111) rfl) (T.meth (i := 115) rfl) (fnmL_neB (bad := []) (by decide)) (ok_Audit_left T) (by decide) tk hr (g_var 0) (gc1 (T.glo (i := 27) rfl) (ok_raw_ours T) (by decide) tk hr (g_fld (T.clsOk (i := 111) rfl) (T.noat (i := 119) rfl) rfl (g_var 0)))) ga_nil))) (gp_tup rfl (gps_cons (gp_name (i := 5) sc_Audit_takes.nd) (gps_cons (gp_name (i := 6) sc_Audit_takes.nd) gps_nil)) rfl))
    (gss_cons (gs_if (gt_w (gw_or (gt_not (gt_tr (gb_all rfl (T.free (i := 97) rfl) (g_lc (own := [("end", 7)]) rfl sc_Audit_takes.nd (gi_seq (gix hr (g_var 1) g_int)) (blkOk_by (by rfl)) (by decide) (fun _ _ _ _ _ => (gp_name (i := 7) sc_Audit_takes.nd)) (fun _ _ _ _ _ => ptsG_nil) (fun _ _ _ _ _ => (gq_in hr (g_var 7) (g_var 5))))))) (gw_or1 (gt_not (gt_tr (gb_all rfl (T.free (i := 97) rfl) (g_lc (own := [("event", 4)]) rfl sc_Audit_takes.nd (gi_seq (gix hr (g_var 1) g_int)) (blkOk_by (by rfl)) (by decide) (fun _ _ _ _ _ => (gp_name (i := 4) sc_Audit_takes.nd)) (fun _ _ _ _ _ => ptsG_nil) (fun _ _ _ _ _ => (gq_in hr (g_var 4) (g_var 6)))))))))) (gss_one (gs_ret g_bl)) gss_nil)
    (gss_cons (gs_if (gt_not (gt_tr (gm2 (T.clsOk (i := 111) rfl) (T.meth (i := 116) rfl) (fnmL_neB (bad := []) (by decide)) (ok_Audit_can_end T) (by decide) tk hr (g_var 0) (g_var 2) (gix hr (g_var 1) g_int)))) (gss_one (gs_ret g_bl)) gss_nil)
    (gss_cons (gs_setT (g_var 2) (gt_fld (T.clsOk (i := 111) rfl) (T.noat (i := 118) rfl) rfl (g_var 0)))
    (gss_cons (gs_for hp rfl (gi_seq (gp_add (gix hr (g_var 1) g_int) (gix hr (g_var 1) g_int))) (gp_name (i := 4) sc_Audit_takes.nd) (gss_one (gs_setT (g_var 2) (gsub hr (g_fld (T.clsOk (i := 111) rfl) (T.noat (i := 120) rfl) rfl (g_var 0)) (g_var 4)))))
    (gss_one (gs_ret g_bl)))))))))) : GSs _ _ _ (defBody s_Audit_takes) m_Audit_takes)), F.bindsN (fun _ _ _ _ _ _ us hl => match us, hl with | [_, _, _], _ => rfl), F.kp⟩
abbrev s_raw_audited : Stmt := top 79
abbrev ns_raw_audited : List Str := ["net", "journal", "audit", "at", "entry", "numbers"]
abbrev ps_raw_audited : List Str := ["net", "journal"]
theorem sc_raw_audited : FnScope ns_raw_audited ps_raw_audited (defScope s_raw_audited) := ⟨rfl, rfl, rfl, by decide +kernel, rfl, by decide +kernel, by decide +kernel⟩
theorem ok_raw_audited (T : Tp K mg) : GFx P w K mg base (nm K) 5 (He.fAd K ("raw_audited", none)) ps_raw_audited fm_raw_audited := by
  obtain ⟨fd, F⟩ := T.def_ (i := 43) (d := d_raw_audited) rfl
  exact ⟨fd, gf_R F sc_raw_audited (fun cdv A outer s H E hr tk hp => ((gss_cons (gs_set (gmk1 (T.mkr (i := 112) rfl) (ok_Audit___init__ T) (by decide) tk hr (T.glo (i := 69) rfl) (g_var 0)) (gp_name (i := 2) sc_raw_audited.nd))
    (gss_cons (gs_if (gt_not (gt_tr (gb_is_tuple (T.free (i := 102) rfl) (T.free (i := 109) rfl) (g_var 1)))) (gss_one (gs_ret (g_tup (ga_cons (g_tup (ga_cons (g_str (cs := [119, 114, 111, 110, 103]) rfl) (ga_cons g_int ga_nil))) (ga_cons (g_var 2) ga_nil))))) gss_nil)
    (gss_cons (gs_for hp rfl (gi_enum (g_var 1) (T.free (i := 100) rfl)) (gp_tup rfl (gps_cons (gp_name (i := 3) sc_raw_audited.nd) (gps_cons (gp_name (i := 4) sc_raw_audited.nd) gps_nil)) rfl) (gss_cons (gs_if (gt_not (gt_tr (gm2 (T.clsOk (i := 111) rfl) (T.meth (i := 117) rfl) (fnmL_neB (bad := []) (by decide)) (ok_Audit_takes T) (by decide) tk hr (g_var 2) (g_var 4) (g_var 3)))) (gss_one (gs_ret (g_tup (ga_cons (g_tup (ga_cons (g_str (cs := [119, 114, 111, 110, 103]) rfl) (ga_cons (g_var 3) ga_nil))) (ga_cons (g_var 2) ga_nil))))) gss_nil)
    (gss_cons (gs_set (gc2 (T.glo (i := 29) rfl) (ok_raw_broken T) (by decide) tk hr (g_var 0) (g_fld (T.clsOk (i := 111) rfl) (T.noat (i := 120) rfl) rfl (g_var 2))) (gp_name (i := 5) sc_raw_audited.nd))
    (gss_one (gs_if (gtq_gt (gb_len (T.free (i := 103) rfl) (g_var 5)) g_int) (gss_one (gs_ret (g_tup (ga_cons (g_tup (ga_cons (g_str (cs := [98, 114, 111, 107, 101, 110]) rfl) (ga_cons (g_var 3) (ga_cons (gix hr (g_var 5) g_int) ga_nil)))) (ga_cons (g_var 2) ga_nil))))) gss_nil)))))
    (gss_cons (gs_if (gt_tr (gm0 (T.clsOk (i := 111) rfl) (T.meth (i := 114) rfl) (fnmL_neB (bad := []) (by decide)) (ok_Audit_is_over T) (by decide) tk hr (g_var 2) )) (gss_one (gs_ret (g_tup (ga_cons (g_tup (ga_cons (g_str (cs := [111, 118, 101, 114]) rfl) (ga_cons (gb_tuple (T.free (i := 109) rfl) (g_fld (T.clsOk (i := 111) rfl) (T.noat (i := 120) rfl) rfl (g_var 2))) ga_nil))) (ga_cons (g_var 2) ga_nil))))) gss_nil)
    (gss_one (gs_ret (g_tup (ga_cons (g_tup (ga_cons (g_str (cs := [114, 105, 103, 104, 116]) rfl) (ga_cons (gb_tuple (T.free (i := 109) rfl) (g_fld (T.clsOk (i := 111) rfl) (T.noat (i := 120) rfl) rfl (g_var 2))) ga_nil))) (ga_cons (g_var 2) ga_nil))))))))) : GSs _ _ _ (defBody s_raw_audited) m_raw_audited)), F.bindsN (fun _ _ _ _ _ _ us hl => match us, hl with | [_, _], _ => rfl), F.kp⟩
abbrev s_course_seen : Stmt := top 82
abbrev ns_course_seen : List Str := ["net", "journal", "found", "told", "audit", "a", "low", "high", "c", "begun", "ended"]
abbrev ps_course_seen : List Str := ["net", "journal"]
theorem sc_course_seen : FnScope ns_course_seen ps_course_seen (defScope s_course_seen) := ⟨rfl, rfl, rfl, by decide +kernel, rfl, by decide +kernel, by decide +kernel⟩
theorem ok_course_seen (T : Tp K mg) : GFx P w K mg base (nm K) 7 (He.fAd K ("course_seen", none)) ps_course_seen fm_course_seen := by
  obtain ⟨fd, F⟩ := T.def_ (i := 44) (d := d_course_seen) rfl
  exact ⟨fd, gf_P F sc_course_seen (fun cdv A outer s H E hr tk hp => ((gss_cons (gs_expr (gc1 (T.glo (i := 25) rfl) (ok_check_net T) (by decide) tk hr (g_var 0)))
    (gss_cons (gs_set (gc2 (T.glo (i := 70) rfl) (ok_raw_audited T) (by decide) tk hr (g_var 0) (g_var 1)) (gp_tup rfl (gps_cons (gp_name (i := 3) sc_course_seen.nd) (gps_cons (gp_name (i := 4) sc_course_seen.nd) gps_nil)) rfl))
    (gss_cons (gs_if (gtq_nin hr (gix hr (g_var 3) g_int) (g_tup (ga_cons (g_str (cs := [111, 118, 101, 114]) rfl) (ga_cons (g_str (cs := [114, 105, 103, 104, 116]) rfl) ga_nil)))) (gss_one (gs_raise0 (c := 6) rfl tk excBase_ValueError (T.exc (i := 140) rfl).1 (T.glo (i := 7) rfl) (T.exc (i := 140) rfl).2.1 (raises_own (T.exc (i := 140) rfl).2.2.1 (T.exc (i := 140) rfl).2.2.2))) gss_nil)
    (gss_cons (gs_set (g_lstN ga_nil) (gp_name (i := 2) sc_course_seen.nd))
    (gss_cons (gs_for hp rfl (gi_seq (gix hr (g_var 0) g_int)) (gp_tup rfl (gps_cons (gp_name (i := 5) sc_course_seen.nd) (gps_cons (gp_name (i := 6) sc_course_seen.nd) (gps_cons (gp_name (i := 7) sc_course_seen.nd) (gps_cons (gp_name (i := 8) sc_course_seen.nd) gps_nil)))) rfl) (gss_cons (gs_par2 (i := 9) (j := 10) rfl sc_course_seen.nd (ga_cons (gix hr (g_fld (T.clsOk (i := 111) rfl) (T.noat (i := 120) rfl) rfl (g_var 4)) (g_var 5)) (ga_cons (gix hr (g_fld (T.clsOk (i := 111) rfl) (T.noat (i := 120) rfl) rfl (g_var 4)) (g_var 8)) ga_nil)) (by rfl))
    (gss_one (gs_if (gt_notN (g_var 10)) (gss_one (gs_expr (g_append (g_var 2) (g_tup (ga_cons (gp_sub (g_var 10) (g_var 9)) (ga_cons (gp_sub (g_var 10) (g_var 9)) ga_nil)))))) (gss_one (gs_expr (g_append (g_var 2) (g_tup (ga_cons (g_if (gt_isN (g_var 9)) (g_var 6) (gb_max2 rfl hr (T.free (i := 105) rfl) (g_var 6) (gp_sub (gp_add (g_fld (T.clsOk (i := 111) rfl) (T.noat (i := 118) rfl) rfl (g_var 4)) g_int) (g_var 9)))) (ga_cons (g_var 7) ga_nil))))))))))
    (gss_one (gs_ret (gb_tuple (T.free (i := 109) rfl) (g_var 2))))))))) : GSs _ _ _ (defBody s_course_seen) m_course_seen)), F.bindsN (fun _ _ _ _ _ _ us hl => match us, hl with | [_, _], _ => rfl), F.kp⟩
abbrev s__law_has_none : Stmt := top 103
abbrev ns__law_has_none : List Str := ["net", "journal", "error"]
abbrev ps__law_has_none : List Str := ["net", "journal"]
theorem sc__law_has_none : FnScope ns__law_has_none ps__law_has_none (defScope s__law_has_none) := ⟨rfl, rfl, rfl, by decide +kernel, rfl, by decide +kernel, by decide +kernel⟩
theorem ok__law_has_none (T : Tp K mg) : GFx P w K mg base (nm K) 8 (He.fAd K ("_law_has_none", none)) ps__law_has_none fm__law_has_none := by
  obtain ⟨fd, F⟩ := T.def_ (i := 45) (d := d__law_has_none) rfl
  exact ⟨fd, gf_R F sc__law_has_none (fun cdv A outer s H E hr tk hp => ((gss_cons (gs_tryAs rfl rfl sc__law_has_none.nd (show Names _ "PlanError" _ from ⟨by rfl, by decide, .inl (T.glo (i := 1) rfl)⟩) tk (cov_PlanError_ok T) (fun _ _ _ tk hp => (gss_one (gs_expr (gc2 (T.glo (i := 73) rfl) (ok_course_seen T) (by decide) tk hr (g_var 0) (g_var 1))))) (fun _ _ c _ hc hz hf => (gss_one (gs_ret (g_isErr (T.excC (cov_ex _ hc)) hz hf (kit_NoJournal T c hc) (T.glo (i := 7) rfl) (T.free (i := 102) rfl))))))
    (gss_one (gs_ret g_bl))) : GSs _ _ _ (defBody s__law_has_none) m__law_has_none)), F.bindsN (fun _ _ _ _ _ _ us hl => match us, hl with | [_, _], _ => rfl), F.kp⟩
abbrev s_Live_minute : Stmt := inClass (top 88) 1
abbrev ns_Live_minute : List Str := ["self"]
abbrev ps_Live_minute : List Str := ["self"]
theorem sc_Live_minute : FnScope ns_Live_minute ps_Live_minute (defScope s_Live_minute) := ⟨rfl, rfl, rfl, by decide +kernel, rfl, by decide +kernel, by decide +kernel⟩
theorem ok_Live_minute (T : Tp K mg) : GFx P w K mg base (nm K) 1 (He.fAd K ("Live", some "minute")) ps_Live_minute fm_Live_minute := by
  obtain ⟨fd, F⟩ := T.def_ (i := 46) (d := d_Live_minute) rfl
  exact ⟨fd, gf_R F sc_Live_minute (fun cdv A outer s H E hr tk hp => ((gss_one (gs_ret (gix hr (gix hr (g_fld (T.clsOk (i := 121) rfl) (T.noat (i := 135) rfl) rfl (g_var 0)) (g_neg g_int)) g_int))) : GSs _ _ _ (defBody s_Live_minute) m_Live_minute)), F.bindsN (fun _ _ _ _ _ _ us hl => match us, hl with | [_], _ => rfl), F.kp⟩
abbrev s_Live_times : Stmt := inClass (top 88) 2
abbrev ns_Live_times : List Str := ["self"]
abbrev ps_Live_times : List Str := ["self"]
theorem sc_Live_times : FnScope ns_Live_times ps_Live_times (defScope s_Live_times) := ⟨rfl, rfl, rfl, by decide +kernel, rfl, by decide +kernel, by decide +kernel⟩
theorem ok_Live_times (T : Tp K mg) : GFx P w K mg base (nm K) 1 (He.fAd K ("Live", some "times")) ps_Live_times fm_Live_times := by
  obtain ⟨fd, F⟩ := T.def_ (i := 47) (d := d_Live_times) rfl
  exact ⟨fd, gf_R F sc_Live_times (fun cdv A outer s H E hr tk hp => ((gss_one (gs_ret (gix hr (gix hr (g_fld (T.clsOk (i := 121) rfl) (T.noat (i := 135) rfl) rfl (g_var 0)) (g_neg g_int)) g_int))) : GSs _ _ _ (defBody s_Live_times) m_Live_times)), F.bindsN (fun _ _ _ _ _ _ us hl => match us, hl with | [_], _ => rfl), F.kp⟩
abbrev s_Live_come : Stmt := inClass (top 88) 3
abbrev ns_Live_come : List Str := ["self", "x", "minute", "times"]
abbrev ps_Live_come : List Str := ["self", "x"]
theorem sc_Live_come : FnScope ns_Live_come ps_Live_come (defScope s_Live_come) := ⟨rfl, rfl, rfl, by decide +kernel, rfl, by decide +kernel, by decide +kernel⟩
theorem ok_Live_come (T : Tp K mg) : GFx P w K mg base (nm K) 4 (He.fAd K ("Live", some "come")) ps_Live_come fm_Live_come := by
  obtain ⟨fd, F⟩ := T.def_ (i := 48) (d := d_Live_come) rfl
  exact ⟨fd, gf_R F sc_Live_come (fun cdv A outer s H E hr tk hp => ((gss_cons (gs_set (gix hr (g_fld (T.clsOk (i := 121) rfl) (T.noat (i := 135) rfl) rfl (g_var 0)) (g_neg g_int)) (gp_tup rfl (gps_cons (gp_name (i := 2) sc_Live_come.nd) (gps_cons (gp_name (i := 3) sc_Live_come.nd) gps_nil)) rfl))
    (gss_cons (gs_if (gt_w (gw_or (gt_not (gt_tr (gc1 (T.glo (i := 8) rfl) (ok_is_int T) (by decide) tk hr (g_var 1)))) (gw_or1 (gtq_nin hr (g_var 1) (gc2 (T.glo (i := 58) rfl) (ok_raw_left T) (by decide) tk hr (g_fld (T.clsOk (i := 121) rfl) (T.noat (i := 134) rfl) rfl (g_var 0)) (g_var 3)))))) (gss_one (gs_raise0 (c := 5) rfl tk excBase_ValueError (T.exc (i := 139) rfl).1 (T.glo (i := 6) rfl) (T.exc (i := 139) rfl).2.1 (raises_own (T.exc (i := 139) rfl).2.2.1 (T.exc (i := 139) rfl).2.2.2))) gss_nil)
    (gss_one (gs_expr (g_append (g_fld (T.clsOk (i := 121) rfl) (T.noat (i := 135) rfl) rfl (g_var 0)) (g_tup (ga_cons (g_var 2) (ga_cons (gc3 (T.glo (i := 56) rfl) (ok_with_come T) (by decide) tk hr (g_var 3) (g_tup (ga_cons (g_var 1) ga_nil)) (g_var 2)) ga_nil)))))))) : GSs _ _ _ (defBody s_Live_come) m_Live_come)), F.bindsN (fun _ _ _ _ _ _ us hl => match us, hl with | [_, _], _ => rfl), F.kp⟩
abbrev s__law_left : Stmt := top 99
abbrev ns__law_left : List Str := ["net", "times", "ends", "last", "event"]
abbrev ps__law_left : List Str := ["net", "times"]
theorem sc__law_left : FnScope ns__law_left ps__law_left (defScope s__law_left) := ⟨rfl, rfl, rfl, by decide +kernel, rfl, by decide +kernel, by decide +kernel⟩
theorem ok__law_left (T : Tp K mg) : GFx P w K mg base (nm K) 1 (He.fAd K ("_law_left", none)) ps__law_left fm__law_left := by
  obtain ⟨fd, F⟩ := T.def_ (i := 49) (d := d__law_left) rfl
  exact ⟨fd, gf_R F sc__law_left (fun cdv A outer s H E hr tk hp => ((gss_cons (by first | exact gs_setLc (i := 2) (y := "ends") (by rfl) sc__law_left.nd rfl rfl (sw_true rfl rfl rfl (by rfl)) (own := [("last", 3)]) (gi_seq (gix hr (g_var 0) g_int)) (blkOk_by (by rfl)) (by decide) (fun _ _ _ _ _ => (gp_name (i := 3) sc__law_left.nd)) (fun _ _ _ _ _ => ptsG_nil) (fun _ _ _ _ _ => (gix hr (g_var 3) g_int)) | exact gs_set (g_lc (own := [("last", 3)]) rfl sc__law_left.nd (gi_seq (gix hr (g_var 0) g_int)) (blkOk_by (by rfl)) (by decide) (fun _ _ _ _ _ => (gp_name (i := 3) sc__law_left.nd)) (fun _ _ _ _ _ => ptsG_nil) (fun _ _ _ _ _ => (gix hr (g_var 3) g_int))) (gp_name (i := 2) sc__law_left.nd))
    (gss_one (gs_ret (g_lc (own := [("event", 4)]) rfl sc__law_left.nd (gi_range2 g_int (gix hr (g_var 0) g_int) (T.free (i := 107) rfl)) (blkOk_by (by rfl)) (by decide) (fun _ _ _ _ _ => (gp_name (i := 4) sc__law_left.nd)) (fun _ _ _ _ _ => (ptsG_one (gt_w (gw_and (gtq_nin hr (g_var 4) (g_var 2)) (gw_and1 (gt_isN (gix hr (g_var 1) (g_var 4)))))))) (fun _ _ _ _ _ => (g_var 4)))))) : GSs _ _ _ (defBody s__law_left) m__law_left)), F.bindsN (fun _ _ _ _ _ _ us hl => match us, hl with | [_, _], _ => rfl), F.kp⟩
abbrev s__law_all : Stmt := top 97
abbrev ns__law_all : List Str := ["net", "out", "a", "low", "high", "c", "j"]
abbrev ps__law_all : List Str := ["net"]
theorem sc__law_all : FnScope ns__law_all ps__law_all (defScope s__law_all) := ⟨rfl, rfl, rfl, by decide +kernel, rfl, by decide +kernel, by decide +kernel⟩
theorem ok__law_all (T : Tp K mg) : GFx P w K mg base (nm K) 1 (He.fAd K ("_law_all", none)) ps__law_all fm__law_all := by
  obtain ⟨fd, F⟩ := T.def_ (i := 50) (d := d__law_all) rfl
  exact ⟨fd, gf_P F sc__law_all (fun cdv A outer s H E hr tk hp => ((gss_cons (gs_set (g_listT rfl (gix hr (g_var 0) g_int) (T.free (i := 104) rfl)) (gp_name (i := 1) sc__law_all.nd))
    (gss_cons (gs_for hp rfl (gi_seq (gix hr (g_var 0) g_int)) (gp_tup rfl (gps_cons (gp_name (i := 2) sc__law_all.nd) (gps_cons (gp_name (i := 3) sc__law_all.nd) (gps_cons (gp_name (i := 4) sc__law_all.nd) (gps_cons (gp_name (i := 5) sc__law_all.nd) gps_nil)))) rfl) (gss_cons (gs_expr (g_append (g_var 1) (g_tup (ga_cons (g_var 2) (ga_cons (g_var 5) (ga_cons (g_var 4) ga_nil))))))
    (gss_one (gs_expr (g_append (g_var 1) (g_tup (ga_cons (g_var 5) (ga_cons (g_var 2) (ga_cons (gp_sub g_int (g_var 3)) ga_nil)))))))))
    (gss_one (gs_ret (gp_add (g_var 1) (g_lc (own := [("j", 6)]) rfl sc__law_all.nd (gi_range2 g_int (gix hr (g_var 0) g_int) (T.free (i := 107) rfl)) (blkOk_by (by rfl)) (by decide) (fun _ _ _ _ _ => (gp_name (i := 6) sc__law_all.nd)) (fun _ _ _ _ _ => ptsG_nil) (fun _ _ _ _ _ => (g_tup (ga_cons (g_var 6) (ga_cons g_int (ga_cons g_int ga_nil))))))))))) : GSs _ _ _ (defBody s__law_all) m__law_all)), F.bindsN (fun _ _ _ _ _ _ us hl => match us, hl with | [_], _ => rfl), F.kp⟩
abbrev s__law_lost : Stmt := top 100
abbrev ns__law_lost : List Str := ["net", "times", "n", "every", "out", "i", "j", "w"]
abbrev ps__law_lost : List Str := ["net", "times"]
theorem sc__law_lost : FnScope ns__law_lost ps__law_lost (defScope s__law_lost) := ⟨rfl, rfl, rfl, by decide +kernel, rfl, by decide +kernel, by decide +kernel⟩
theorem ok__law_lost (T : Tp K mg) : GFx P w K mg base (nm K) 2 (He.fAd K ("_law_lost", none)) ps__law_lost fm__law_lost := by
  obtain ⟨fd, F⟩ := T.def_ (i := 51) (d := d__law_lost) rfl
  exact ⟨fd, gf_R F sc__law_lost (fun cdv A outer s H E hr tk hp => ((gss_cons (gs_par2 (i := 3) (j := 4) rfl sc__law_lost.nd (ga_cons (gc1 (T.glo (i := 85) rfl) (ok__law_all T) (by decide) tk hr (g_var 0)) (ga_cons (g_lstN ga_nil) ga_nil)) (by rfl))
    (gss_cons (gs_for hp rfl (gi_range1 (gb_len (T.free (i := 103) rfl) (g_var 3)) (T.free (i := 107) rfl)) (gp_name (i := 2) sc__law_lost.nd) (gss_cons (gs_set (gix hr (g_var 3) (g_var 2)) (gp_tup rfl (gps_cons (gp_name (i := 5) sc__law_lost.nd) (gps_cons (gp_name (i := 6) sc__law_lost.nd) (gps_cons (gp_name (i := 7) sc__law_lost.nd) gps_nil))) rfl))
    (gss_one (gs_if (gt_w (gw_and (gt_notN (gix hr (g_var 1) (g_var 5))) (gw_and (gt_notN (gix hr (g_var 1) (g_var 6))) (gw_and1 (gtq_gt (gp_sub (gix hr (g_var 1) (g_var 6)) (gix hr (g_var 1) (g_var 5))) (g_var 7)))))) (gss_one (gs_expr (g_append (g_var 4) (g_var 2)))) gss_nil))))
    (gss_one (gs_ret (g_var 4))))) : GSs _ _ _ (defBody s__law_lost) m__law_lost)), F.bindsN (fun _ _ _ _ _ _ us hl => match us, hl with | [_, _], _ => rfl), F.kp⟩
abbrev s__law_ends_next : Stmt := top 98
abbrev ns__law_ends_next : List Str := ["net", "minute", "times", "must", "lots", "a", "low", "high", "c", "lot"]
abbrev ps__law_ends_next : List Str := ["net", "minute", "times"]
theorem sc__law_ends_next : FnScope ns__law_ends_next ps__law_ends_next (defScope s__law_ends_next) := ⟨rfl, rfl, rfl, by decide +kernel, rfl, by decide +kernel, by decide +kernel⟩
theorem ok__law_ends_next (T : Tp K mg) : GFx P w K mg base (nm K) 1 (He.fAd K ("_law_ends_next", none)) ps__law_ends_next fm__law_ends_next := by
  obtain ⟨fd, F⟩ := T.def_ (i := 52) (d := d__law_ends_next) rfl
  exact ⟨fd, gf_P F sc__law_ends_next (fun cdv A outer s H E hr tk hp => ((gss_cons (gs_set (g_tup (ga_cons (g_lstN ga_nil) (ga_cons (g_lst (ga_cons (g_tup ga_nil) ga_nil)) ga_nil))) (gp_tup rfl (gps_cons (gp_name (i := 3) sc__law_ends_next.nd) (gps_cons (gp_name (i := 4) sc__law_ends_next.nd) gps_nil)) rfl))
    (gss_cons (gs_for hp rfl (gi_seq (gix hr (g_var 0) g_int)) (gp_tup rfl (gps_cons (gp_name (i := 5) sc__law_ends_next.nd) (gps_cons (gp_name (i := 6) sc__law_ends_next.nd) (gps_cons (gp_name (i := 7) sc__law_ends_next.nd) (gps_cons (gp_name (i := 8) sc__law_ends_next.nd) gps_nil)))) rfl) (gss_one (gs_if (gt_w (gw_and (gt_isN (gix hr (g_var 2) (g_var 8))) (gw_and (gt_notN (gix hr (g_var 2) (g_var 5))) (gw_and1 (gtq_le_le (g_var 6) (gp_sub (g_var 1) (gix hr (g_var 2) (g_var 5))) (g_var 7)))))) (gss_one (gs_if (gtq_eq hr (gp_sub (g_var 1) (gix hr (g_var 2) (g_var 5))) (g_var 7)) (gss_one (gs_expr (g_append (g_var 3) (g_var 8)))) (gss_one (gs_set (gp_add (g_var 4) (g_lc (own := [("lot", 9)]) rfl sc__law_ends_next.nd (gi_seq (g_var 4)) (blkOk_by (by rfl)) (by decide) (fun _ _ _ _ _ => (gp_name (i := 9) sc__law_ends_next.nd)) (fun _ _ _ _ _ => ptsG_nil) (fun _ _ _ _ _ => (gp_add (g_var 9) (g_tup (ga_cons (g_var 8) ga_nil)))))) (gp_name (i := 4) sc__law_ends_next.nd))))) gss_nil)))
    (gss_one (gs_ret (gb_tuple (T.free (i := 109) rfl) (gb_sorted rfl hr (T.free (i := 108) rfl) (g_lc (own := [("lot", 9)]) rfl sc__law_ends_next.nd (gi_seq (g_var 4)) (blkOk_by (by rfl)) (by decide) (fun _ _ _ _ _ => (gp_name (i := 9) sc__law_ends_next.nd)) (fun _ _ _ _ _ => ptsG_nil) (fun _ _ _ _ _ => (gb_tuple (T.free (i := 109) rfl) (gb_sorted rfl hr (T.free (i := 108) rfl) (gp_add (g_var 9) (gb_tuple (T.free (i := 109) rfl) (g_var 3))))))))))))) : GSs _ _ _ (defBody s__law_ends_next) m__law_ends_next)), F.bindsN (fun _ _ _ _ _ _ us hl => match us, hl with | [_, _, _], _ => rfl), F.kp⟩
abbrev s__law_audited : Stmt := top 101
abbrev ns__law_audited : List Str := ["net", "journal", "times", "at", "left", "event", "lost", "minute", "come", "ours"]
abbrev ps__law_audited : List Str := ["net", "journal"]
theorem sc__law_audited : FnScope ns__law_audited ps__law_audited (defScope s__law_audited) := ⟨rfl, rfl, rfl, by decide +kernel, rfl, by decide +kernel, by decide +kernel⟩
theorem ok__law_audited (T : Tp K mg) : GFx P w K mg base (nm K) 3 (He.fAd K ("_law_audited", none)) ps__law_audited fm__law_audited := by
  obtain ⟨fd, F⟩ := T.def_ (i := 53) (d := d__law_audited) rfl
  exact ⟨fd, gf_P F sc__law_audited (fun cdv A outer s H E hr tk hp => ((gss_cons (gs_set (gp_addT (g_lst (ga_cons g_int ga_nil)) (gp_mul (g_lst (ga_cons g_non ga_nil)) (gp_sub (gix hr (g_var 0) g_int) g_int))) (gp_name (i := 2) sc__law_audited.nd))
    (gss_cons (gs_for hp rfl (gi_range1 (gb_len (T.free (i := 103) rfl) (g_var 1)) (T.free (i := 107) rfl)) (gp_name (i := 3) sc__law_audited.nd) (gss_cons (gs_set (gix hr (g_var 1) (g_var 3)) (gp_tup rfl (gps_cons (gp_name (i := 7) sc__law_audited.nd) (gps_cons (gp_name (i := 8) sc__law_audited.nd) (gps_cons (gp_name (i := 9) sc__law_audited.nd) gps_nil))) rfl))
    (gss_cons (gs_set (gc2 (T.glo (i := 87) rfl) (ok__law_left T) (by decide) tk hr (g_var 0) (g_var 2)) (gp_name (i := 4) sc__law_audited.nd))
    (gss_cons (gs_if (gt_w (gw_or (gtq_nin hr g_non (g_var 2)) (gw_or (gtq_ne hr (g_var 7) (g_var 3)) (gw_or1 (gt_not (gt_tr (gb_all rfl (T.free (i := 97) rfl) (g_lc (own := [("event", 5)]) rfl sc__law_audited.nd (gi_seq (g_var 9)) (blkOk_by (by rfl)) (by decide) (fun _ _ _ _ _ => (gp_name (i := 5) sc__law_audited.nd)) (fun _ _ _ _ _ => ptsG_nil) (fun _ _ _ _ _ => (gq_in hr (g_var 5) (g_var 4))))))))))) (gss_one (gs_ret (g_tup (ga_cons (g_str (cs := [119, 114, 111, 110, 103]) rfl) (ga_cons (g_var 3) ga_nil))))) gss_nil)
    (gss_cons (gs_if (gt_w (gw_or (gt_w (gw_and (gtq_eq hr (g_var 3) g_int) (gw_and1 (gtq_ne hr (g_var 8) (g_tup ga_nil))))) (gw_or1 (gt_w (gw_and (gtq_gt (g_var 3) g_int) (gw_and1 (gtq_nin hr (g_var 8) (gc3 (T.glo (i := 86) rfl) (ok__law_ends_next T) (by decide) tk hr (g_var 0) (g_var 3) (gb_tuple (T.free (i := 109) rfl) (g_var 2)))))))))) (gss_one (gs_ret (g_tup (ga_cons (g_str (cs := [119, 114, 111, 110, 103]) rfl) (ga_cons (g_var 3) ga_nil))))) gss_nil)
    (gss_cons (gs_for hp rfl (gi_seq (gp_add (g_var 8) (g_var 9))) (gp_name (i := 5) sc__law_audited.nd) (gss_one (gs_setT (g_var 3) (gsub hr (g_var 2) (g_var 5)))))
    (gss_cons (gs_set (gc2 (T.glo (i := 88) rfl) (ok__law_lost T) (by decide) tk hr (g_var 0) (g_var 2)) (gp_name (i := 6) sc__law_audited.nd))
    (gss_one (gs_if (gt_tr (g_var 6)) (gss_one (gs_ret (g_tup (ga_cons (g_str (cs := [98, 114, 111, 107, 101, 110]) rfl) (ga_cons (g_var 3) (ga_cons (gix hr (g_var 6) g_int) ga_nil)))))) gss_nil)))))))))
    (gss_one (gs_ret (g_tup (ga_cons (g_if (gtq_in hr g_non (g_var 2)) (g_str (cs := [114, 105, 103, 104, 116]) rfl) (g_str (cs := [111, 118, 101, 114]) rfl)) (ga_cons (gb_tuple (T.free (i := 109) rfl) (g_var 2)) ga_nil))))))) : GSs _ _ _ (defBody s__law_audited) m__law_audited)), F.bindsN (fun _ _ _ _ _ _ us hl => match us, hl with | [_, _], _ => rfl), F.kp⟩
abbrev s_audited : Stmt := top 80
abbrev ns_audited : List Str := ["net", "journal"]
abbrev ps_audited : List Str := ["net", "journal"]
theorem sc_audited : FnScope ns_audited ps_audited (defScope s_audited) := ⟨rfl, rfl, rfl, by decide +kernel, rfl, by decide +kernel, by decide +kernel⟩
theorem ok_audited (T : Tp K mg) : GFx P w K mg base (nm K) 7 (He.fAd K ("audited", none)) ps_audited fm_audited := by
  obtain ⟨fd, F⟩ := T.def_ (i := 54) (d := d_audited) rfl
  exact ⟨fd, gf_P F sc_audited (fun cdv A outer s H E hr tk hp => ((gss_cons (gs_expr (gc1 (T.glo (i := 25) rfl) (ok_check_net T) (by decide) tk hr (g_var 0)))
    (gss_one (gs_ret (gix hr (gc2 (T.glo (i := 70) rfl) (ok_raw_audited T) (by decide) tk hr (g_var 0) (g_var 1)) g_int)))) : GSs _ _ _ (defBody s_audited) m_audited)), F.bindsN (fun _ _ _ _ _ _ us hl => match us, hl with | [_, _], _ => rfl), F.kp⟩
abbrev s__law_seen : Stmt := top 102
abbrev ns__law_seen : List Str := ["net", "times", "minute", "out", "a", "low", "high", "c"]
abbrev ps__law_seen : List Str := ["net", "times", "minute"]
theorem sc__law_seen : FnScope ns__law_seen ps__law_seen (defScope s__law_seen) := ⟨rfl, rfl, rfl, by decide +kernel, rfl, by decide +kernel, by decide +kernel⟩
theorem ok__law_seen (T : Tp K mg) : GFx P w K mg base (nm K) 1 (He.fAd K ("_law_seen", none)) ps__law_seen fm__law_seen := by
  obtain ⟨fd, F⟩ := T.def_ (i := 55) (d := d__law_seen) rfl
  exact ⟨fd, gf_P F sc__law_seen (fun cdv A outer s H E hr tk hp => ((gss_cons (gs_set (g_lstN ga_nil) (gp_name (i := 3) sc__law_seen.nd))
    (gss_cons (gs_for hp rfl (gi_seq (gix hr (g_var 0) g_int)) (gp_tup rfl (gps_cons (gp_name (i := 4) sc__law_seen.nd) (gps_cons (gp_name (i := 5) sc__law_seen.nd) (gps_cons (gp_name (i := 6) sc__law_seen.nd) (gps_cons (gp_name (i := 7) sc__law_seen.nd) gps_nil)))) rfl) (gss_one (gs_if (gt_notN (gix hr (g_var 1) (g_var 7))) (gss_one (gs_expr (g_append (g_var 3) (g_tup (ga_cons (gp_sub (gix hr (g_var 1) (g_var 7)) (gix hr (g_var 1) (g_var 4))) (ga_cons (gp_sub (gix hr (g_var 1) (g_var 7)) (gix hr (g_var 1) (g_var 4))) ga_nil)))))) (gss_one (gs_expr (g_append (g_var 3) (g_tup (ga_cons (g_if (gt_isN (gix hr (g_var 1) (g_var 4))) (g_var 5) (gb_max2 rfl hr (T.free (i := 105) rfl) (g_var 5) (gp_sub (gp_add (g_var 2) g_int) (gix hr (g_var 1) (g_var 4))))) (ga_cons (g_var 6) ga_nil)))))))))
    (gss_one (gs_ret (gb_tuple (T.free (i := 109) rfl) (g_var 3)))))) : GSs _ _ _ (defBody s__law_seen) m__law_seen)), F.bindsN (fun _ _ _ _ _ _ us hl => match us, hl with | [_, _, _], _ => rfl), F.kp⟩
abbrev s_is_journal : Stmt := top 81
abbrev ns_is_journal : List Str := ["net", "thing"]
abbrev ps_is_journal : List Str := ["net", "thing"]
theorem sc_is_journal : FnScope ns_is_journal ps_is_journal (defScope s_is_journal) := ⟨rfl, rfl, rfl, by decide +kernel, rfl, by decide +kernel, by decide +kernel⟩
theorem ok_is_journal (T : Tp K mg) : GFx P w K mg base (nm K) 7 (He.fAd K ("is_journal", none)) ps_is_journal fm_is_journal := by
  obtain ⟨fd, F⟩ := T.def_ (i := 56) (d := d_is_journal) rfl
  exact ⟨fd, gf_P F sc_is_journal (fun cdv A outer s H E hr tk hp => ((gss_cons (gs_expr (gc1 (T.glo (i := 25) rfl) (ok_check_net T) (by decide) tk hr (g_var 0)))
    (gss_one (gs_ret (gq_in hr (gix hr (gix hr (gc2 (T.glo (i := 70) rfl) (ok_raw_audited T) (by decide) tk hr (g_var 0) (g_var 1)) g_int) g_int) (g_tup (ga_cons (g_str (cs := [111, 118, 101, 114]) rfl) (ga_cons (g_str (cs := [114, 105, 103, 104, 116]) rfl) ga_nil))))))) : GSs _ _ _ (defBody s_is_journal) m_is_journal)), F.bindsN (fun _ _ _ _ _ _ us hl => match us, hl with | [_, _], _ => rfl), F.kp⟩
abbrev s__law_is_minute_right : Stmt := top 105
abbrev ns__law_is_minute_right : List Str := ["net", "live", "journal", "due", "told", "seen"]
abbrev ps__law_is_minute_right : List Str := ["net", "live", "journal"]
theorem sc__law_is_minute_right : FnScope ns__law_is_minute_right ps__law_is_minute_right (defScope s__law_is_minute_right) := ⟨rfl, rfl, rfl, by decide +kernel, rfl, by decide +kernel, by decide +kernel⟩
theorem ok__law_is_minute_right (T : Tp K mg) : GFx P w K mg base (nm K) 9 (He.fAd K ("_law_is_minute_right", none)) ps__law_is_minute_right fm__law_is_minute_right := by
  obtain ⟨fd, F⟩ := T.def_ (i := 57) (d := d__law_is_minute_right) rfl
  exact ⟨fd, gf_R F sc__law_is_minute_right (fun cdv A outer s H E hr tk hp => ((gss_cons (gs_par2 (i := 3) (j := 4) rfl sc__law_is_minute_right.nd (ga_cons (gc2 (T.glo (i := 89) rfl) (ok__law_audited T) (by decide) tk hr (g_var 0) (g_var 2)) (ga_cons (gc2 (T.glo (i := 71) rfl) (ok_audited T) (by decide) tk hr (g_var 0) (g_var 2)) ga_nil)) (by rfl))
    (gss_cons (gs_if (gt_w (gw_or (gtq_ne hr (g_var 4) (g_var 3)) (gw_or1 (gtq_ne hr (gc2 (T.glo (i := 72) rfl) (ok_is_journal T) (by decide) tk hr (g_var 0) (g_var 2)) (gq_in hr (gix hr (g_var 3) g_int) (g_tup (ga_cons (g_str (cs := [114, 105, 103, 104, 116]) rfl) (ga_cons (g_str (cs := [111, 118, 101, 114]) rfl) ga_nil)))))))) (gss_one (gs_ret g_bl)) gss_nil)
    (gss_cons (gs_if (gtq_in hr (gix hr (g_var 3) g_int) (g_tup (ga_cons (g_str (cs := [114, 105, 103, 104, 116]) rfl) (ga_cons (g_str (cs := [111, 118, 101, 114]) rfl) ga_nil)))) (gss_cons (gs_set (gc3 (T.glo (i := 90) rfl) (ok__law_seen T) (by decide) tk hr (g_var 0) (gm0 (T.clsOk (i := 121) rfl) (T.meth (i := 125) rfl) (fnmL_neB (bad := [5]) (by decide)) (ok_Live_times T) (by decide) tk hr (g_var 1) ) (gm0 (T.clsOk (i := 121) rfl) (T.meth (i := 124) rfl) (fnmL_neB (bad := [6]) (by decide)) (ok_Live_minute T) (by decide) tk hr (g_var 1) )) (gp_name (i := 5) sc__law_is_minute_right.nd))
    (gss_one (gs_if (gt_w (gw_or (gtq_ne hr (gix hr (g_var 3) g_int) (gm0 (T.clsOk (i := 121) rfl) (T.meth (i := 125) rfl) (fnmL_neB (bad := [5]) (by decide)) (ok_Live_times T) (by decide) tk hr (g_var 1) )) (gw_or1 (gtq_ne hr (gc2 (T.glo (i := 73) rfl) (ok_course_seen T) (by decide) tk hr (g_var 0) (g_var 2)) (g_var 5))))) (gss_one (gs_ret g_bl)) gss_nil))) (gss_one (gs_if (gt_not (gt_tr (gc2 (T.glo (i := 91) rfl) (ok__law_has_none T) (by decide) tk hr (g_var 0) (g_var 2)))) (gss_one (gs_ret g_bl)) gss_nil)))
    (gss_one (gs_ret (gq_eq hr (gm0 (T.clsOk (i := 121) rfl) (T.meth (i := 132) rfl) (fnmL_neB (bad := []) (by decide)) (ok_Live_is_over T) (by decide) tk hr (g_var 1) ) (gq_nin hr g_non (gm0 (T.clsOk (i := 121) rfl) (T.meth (i := 125) rfl) (fnmL_neB (bad := [5]) (by decide)) (ok_Live_times T) (by decide) tk hr (g_var 1) )))))))) : GSs _ _ _ (defBody s__law_is_minute_right) m__law_is_minute_right)), F.bindsN (fun _ _ _ _ _ _ us hl => match us, hl with | [_, _, _], _ => rfl), F.kp⟩
abbrev s_Live_undo : Stmt := inClass (top 88) 10
abbrev ns_Live_undo : List Str := ["self"]
abbrev ps_Live_undo : List Str := ["self"]
theorem sc_Live_undo : FnScope ns_Live_undo ps_Live_undo (defScope s_Live_undo) := ⟨rfl, rfl, rfl, by decide +kernel, rfl, by decide +kernel, by decide +kernel⟩
theorem ok_Live_undo (T : Tp K mg) : GFx P w K mg base (nm K) 1 (He.fAd K ("Live", some "undo")) ps_Live_undo fm_Live_undo := by
  obtain ⟨fd, F⟩ := T.def_ (i := 58) (d := d_Live_undo) rfl
  exact ⟨fd, gf_R F sc_Live_undo (fun cdv A outer s H E hr tk hp => ((gss_cons (gs_if (gtq_eq hr (gb_len (T.free (i := 103) rfl) (g_fld (T.clsOk (i := 121) rfl) (T.noat (i := 135) rfl) rfl (g_var 0))) g_int) (gss_one (gs_ret g_bl)) gss_nil)
    (gss_cons (gs_expr (g_popT (g_fld (T.clsOk (i := 121) rfl) (T.noat (i := 135) rfl) rfl (g_var 0))))
    (gss_one (gs_ret g_bl)))) : GSs _ _ _ (defBody s_Live_undo) m_Live_undo)), F.bindsN (fun _ _ _ _ _ _ us hl => match us, hl with | [_], _ => rfl), F.kp⟩
abbrev s__law_can_go : Stmt := top 104
abbrev ns__law_can_go : List Str := ["live", "ends", "error"]
abbrev ps__law_can_go : List Str := ["live", "ends"]
theorem sc__law_can_go : FnScope ns__law_can_go ps__law_can_go (defScope s__law_can_go) := ⟨rfl, rfl, rfl, by decide +kernel, rfl, by decide +kernel, by decide +kernel⟩
theorem ok__law_can_go (T : Tp K mg) : GFx P w K mg base (nm K) 6 (He.fAd K ("_law_can_go", none)) ps__law_can_go fm__law_can_go := by
  obtain ⟨fd, F⟩ := T.def_ (i := 59) (d := d__law_can_go) rfl
  exact ⟨fd, gf_R F sc__law_can_go (fun cdv A outer s H E hr tk hp => ((gss_cons (gs_tryAs rfl rfl sc__law_can_go.nd (show Names _ "PlanError" _ from ⟨by rfl, by decide, .inl (T.glo (i := 1) rfl)⟩) tk (cov_PlanError_ok T) (fun _ _ _ tk hp => (gss_one (gs_expr (gm1 (T.clsOk (i := 121) rfl) (T.meth (i := 127) rfl) (fnmL_neB (bad := []) (by decide)) (ok_Live_go T) (by decide) tk hr (g_var 0) (g_var 1))))) (fun _ _ c _ hc hz hf => (gss_one (gs_ret (g_if (gt_tr (g_isErr (T.excC (cov_ex _ hc)) hz hf (kit_NoLot T c hc) (T.glo (i := 4) rfl) (T.free (i := 102) rfl))) g_bl g_non)))))
    (gss_one (gs_ret (g_if (gtq_is (gm0 (T.clsOk (i := 121) rfl) (T.meth (i := 133) rfl) (fnmL_neB (bad := []) (by decide)) (ok_Live_undo T) (by decide) tk hr (g_var 0) ) g_bl) g_bl g_non)))) : GSs _ _ _ (defBody s__law_can_go) m__law_can_go)), F.bindsN (fun _ _ _ _ _ _ us hl => match us, hl with | [_, _], _ => rfl), F.kp⟩
abbrev s__law_are_ends_right : Stmt := top 106
abbrev ns__law_are_ends_right : List Str := ["net", "live", "place", "lot", "some", "lots", "last", "one"]
abbrev ps__law_are_ends_right : List Str := ["net", "live", "place", "lot"]
theorem sc__law_are_ends_right : FnScope ns__law_are_ends_right ps__law_are_ends_right (defScope s__law_are_ends_right) := ⟨rfl, rfl, rfl, by decide +kernel, rfl, by decide +kernel, by decide +kernel⟩
theorem ok__law_are_ends_right (T : Tp K mg) : GFx P w K mg base (nm K) 9 (He.fAd K ("_law_are_ends_right", none)) ps__law_are_ends_right fm__law_are_ends_right := by
  obtain ⟨fd, F⟩ := T.def_ (i := 60) (d := d__law_are_ends_right) rfl
  exact ⟨fd, gf_R F sc__law_are_ends_right (fun cdv A outer s H E hr tk hp => ((gss_cons (gs_set (gc3 (T.glo (i := 63) rfl) (ok_ends_next T) (by decide) tk hr (g_var 0) (g_var 2) (g_var 3)) (gp_name (i := 4) sc__law_are_ends_right.nd))
    (gss_cons (gs_if (gtq_ne hr (g_var 4) (gc3 (T.glo (i := 86) rfl) (ok__law_ends_next T) (by decide) tk hr (g_var 0) (gp_add (gm0 (T.clsOk (i := 121) rfl) (T.meth (i := 124) rfl) (fnmL_neB (bad := [6]) (by decide)) (ok_Live_minute T) (by decide) tk hr (g_var 1) ) g_int) (gm0 (T.clsOk (i := 121) rfl) (T.meth (i := 125) rfl) (fnmL_neB (bad := [5]) (by decide)) (ok_Live_times T) (by decide) tk hr (g_var 1) ))) (gss_one (gs_ret g_bl)) gss_nil)
    (gss_cons (gs_set (g_lst (ga_cons (g_tup ga_nil) ga_nil)) (gp_name (i := 5) sc__law_are_ends_right.nd))
    (gss_cons (gs_for hp rfl (gi_seq (gix hr (g_var 0) g_int)) (gp_name (i := 6) sc__law_are_ends_right.nd) (gss_one (gs_set (gp_add (g_var 5) (g_lc (own := [("one", 7)]) rfl sc__law_are_ends_right.nd (gi_seq (g_var 5)) (blkOk_by (by rfl)) (by decide) (fun _ _ _ _ _ => (gp_name (i := 7) sc__law_are_ends_right.nd)) (fun _ _ _ _ _ => ptsG_nil) (fun _ _ _ _ _ => (gb_tuple (T.free (i := 109) rfl) (gb_sorted rfl hr (T.free (i := 108) rfl) (gp_add (g_var 7) (g_tup (ga_cons (gix hr (g_var 6) g_int) ga_nil)))))))) (gp_name (i := 5) sc__law_are_ends_right.nd))))
    (gss_one (gs_ret (gb_all rfl (T.free (i := 97) rfl) (g_lc (own := [("one", 7)]) rfl sc__law_are_ends_right.nd (gi_seq (g_var 5)) (blkOk_by (by rfl)) (by decide) (fun _ _ _ _ _ => (gp_name (i := 7) sc__law_are_ends_right.nd)) (fun _ _ _ _ _ => ptsG_nil) (fun _ _ _ _ _ => (gq_eq hr (gc2 (T.glo (i := 92) rfl) (ok__law_can_go T) (by decide) Takes.wf hr (g_var 1) (g_var 7)) (gq_in hr (g_var 7) (g_var 4)))))))))))) : GSs _ _ _ (defBody s__law_are_ends_right) m__law_are_ends_right)), F.bindsN (fun _ _ _ _ _ _ us hl => match us, hl with | [_, _, _, _], _ => rfl), F.kp⟩
abbrev s_law : Stmt := top 107
abbrev ns_law : List Str := ["script", "draws", "net", "turn", "bad", "thing", "live", "journal", "came", "place", "lot", "event", "some"]
abbrev ps_law : List Str := ["script"]
theorem sc_law : FnScope ns_law ps_law (defScope s_law) := ⟨rfl, rfl, rfl, by decide +kernel, rfl, by decide +kernel, by decide +kernel⟩
theorem ok_law (T : Tp K mg) : GFx P w K mg base (nm K) 10 (He.fAd K ("law", none)) ps_law fm_law := by
  obtain ⟨fd, F⟩ := T.def_ (i := 61) (d := d_law) rfl
  exact ⟨fd, gf_R F sc_law (fun cdv A outer s H E hr tk hp => ((gss_cons (gs_set (gc2 (T.glo (i := 78) rfl) (ok__law_draws T) (by decide) tk hr (g_var 0) g_int) (gp_name (i := 1) sc_law.nd))
    (gss_cons (gs_set (gc4 (T.glo (i := 84) rfl) (ok__law_net T) (by decide) tk hr (g_var 1) g_int g_int g_int) (gp_name (i := 2) sc_law.nd))
    (gss_cons (gs_par3 (i := 6) (j := 7) (l := 8) rfl sc_law.nd (ga_cons (gmk1 (T.mkr (i := 122) rfl) (ok_Live___init__ T) (by decide) tk hr (T.glo (i := 77) rfl) (g_var 2)) (ga_cons (g_tup ga_nil) (ga_cons (g_tup ga_nil) ga_nil))) (by rfl))
    (gss_cons (gs_for hp rfl (gi_range1 (gp_add g_int (gc2 (T.glo (i := 79) rfl) (ok__law_take T) (by decide) tk hr (g_var 1) g_int)) (T.free (i := 107) rfl)) (gp_name (i := 3) sc_law.nd) (gss_cons (gs_set (g_tup (ga_cons (gm0 (T.clsOk (i := 121) rfl) (T.meth (i := 124) rfl) (fnmL_neB (bad := [6]) (by decide)) (ok_Live_minute T) (by decide) tk hr (g_var 6) ) (ga_cons (gm0 (T.clsOk (i := 121) rfl) (T.meth (i := 125) rfl) (fnmL_neB (bad := [5]) (by decide)) (ok_Live_times T) (by decide) tk hr (g_var 6) ) ga_nil))) (gp_name (i := 9) sc_law.nd))
    (gss_cons (gs_set (gb_tuple (T.free (i := 109) rfl) (g_lc (own := [("event", 11)]) rfl sc_law.nd (gi_seq (gc2 (T.glo (i := 87) rfl) (ok__law_left T) (by decide) tk hr (g_var 2) (gm0 (T.clsOk (i := 121) rfl) (T.meth (i := 125) rfl) (fnmL_neB (bad := [5]) (by decide)) (ok_Live_times T) (by decide) tk hr (g_var 6) ))) (blkOk_by (by rfl)) (by decide) (fun _ _ _ _ _ => (gp_name (i := 11) sc_law.nd)) (fun _ _ _ _ _ => (ptsG_one (gtq_eq hr (gc2 (T.glo (i := 79) rfl) (ok__law_take T) (by decide) Takes.wf hr (g_var 1) g_int) g_int))) (fun _ _ _ _ _ => (g_var 11)))) (gp_name (i := 10) sc_law.nd))
    (gss_cons (gs_for hp rfl (gi_seq (g_var 10)) (gp_name (i := 11) sc_law.nd) (gss_one (gs_expr (gm1 (T.clsOk (i := 121) rfl) (T.meth (i := 126) rfl) (fnmL_neB (bad := []) (by decide)) (ok_Live_come T) (by decide) tk hr (g_var 6) (g_var 11)))))
    (gss_cons (gs_set (gp_add (g_var 7) (g_tup (ga_cons (g_tup (ga_cons (g_var 3) (ga_cons (g_var 8) (ga_cons (g_var 10) ga_nil)))) ga_nil))) (gp_name (i := 7) sc_law.nd))
    (gss_cons (gs_if (gt_not (gt_tr (gc3 (T.glo (i := 93) rfl) (ok__law_is_minute_right T) (by decide) tk hr (g_var 2) (g_var 6) (g_var 7)))) (gss_one (gs_ret g_bl)) gss_nil)
    (gss_cons (gs_if (gt_tr (gm0 (T.clsOk (i := 121) rfl) (T.meth (i := 132) rfl) (fnmL_neB (bad := []) (by decide)) (ok_Live_is_over T) (by decide) tk hr (g_var 6) )) (gss_one (gs_ret (gq_in hr (gix hr (gc2 (T.glo (i := 71) rfl) (ok_audited T) (by decide) tk hr (g_var 2) (gp_add (g_var 7) (g_tup (ga_cons (g_tup (ga_cons (gp_add (g_var 3) g_int) (ga_cons (g_tup ga_nil) (ga_cons (g_tup ga_nil) ga_nil)))) ga_nil)))) g_int) (g_tup (ga_cons (g_str (cs := [119, 114, 111, 110, 103]) rfl) (ga_cons (g_str (cs := [98, 114, 111, 107, 101, 110]) rfl) ga_nil)))))) gss_nil)
    (gss_cons (gs_if (gt_not (gt_tr (gc4 (T.glo (i := 94) rfl) (ok__law_are_ends_right T) (by decide) tk hr (g_var 2) (g_var 6) (g_var 9) (g_var 10)))) (gss_one (gs_ret g_bl)) gss_nil)
    (gss_cons (gs_set (gc3 (T.glo (i := 63) rfl) (ok_ends_next T) (by decide) tk hr (g_var 2) (g_var 9) (g_var 10)) (gp_name (i := 12) sc_law.nd))
    (gss_cons (gs_set (gix hr (g_var 12) (gc2 (T.glo (i := 79) rfl) (ok__law_take T) (by decide) tk hr (g_var 1) (gb_len (T.free (i := 103) rfl) (g_var 12)))) (gp_name (i := 8) sc_law.nd))
    (gss_one (gs_expr (gm1 (T.clsOk (i := 121) rfl) (T.meth (i := 127) rfl) (fnmL_neB (bad := []) (by decide)) (ok_Live_go T) (by decide) tk hr (g_var 6) (g_var 8))))))))))))))
    (gss_cons (gs_set (g_lst (ga_cons g_non (ga_cons (gb_list rfl (T.free (i := 104) rfl) (g_var 7)) (ga_cons (gp_add (g_var 7) (g_tup (ga_cons g_non ga_nil))) (ga_cons (gp_add (g_slice (g_var 7) go_no (go_so (g_neg g_int))) (g_tup (ga_cons (g_tup (ga_cons g_int (ga_cons (g_tup (ga_cons g_int ga_nil)) (ga_cons (g_tup ga_nil) ga_nil)))) ga_nil))) (ga_cons (gp_add (g_var 7) (g_var 7)) ga_nil)))))) (gp_name (i := 4) sc_law.nd))
    (gss_cons (gs_set (gix hr (g_var 4) (gc2 (T.glo (i := 79) rfl) (ok__law_take T) (by decide) tk hr (g_var 1) (gb_len (T.free (i := 103) rfl) (g_var 4)))) (gp_name (i := 5) sc_law.nd))
    (gss_one (gs_ret (g_and (gq_is (gc2 (T.glo (i := 72) rfl) (ok_is_journal T) (by decide) tk hr (g_var 2) (g_var 5)) g_bl) (g_one (gc2 (T.glo (i := 91) rfl) (ok__law_has_none T) (by decide) tk hr (g_var 2) (g_var 5)))))))))))) : GSs _ _ _ (defBody s_law) m_law)), F.bindsN (fun _ _ _ _ _ _ us hl => match us, hl with | [_], _ => rfl), F.kp⟩
end
end K97
end

section
set_option Elab.async false
set_option linter.all false
set_option maxRecDepth 100000
set_option maxHeartbeats 4000000
/-! P0: how meanings are reckoned. By an AI agent. -/
namespace G
@[simp] theorem bnd_ok {α β : Type} (a : α) (S : Store) (k : α → Store → R β) : (R.ok a S).bnd k = k a S := rfl
@[simp] theorem bnd_exc {α β : Type} (c : Nat) (as : List D) (S : Store) (k : α → Store → R β) : (R.exc (α := α) c as S).bnd k = .exc c as S := rfl
@[simp] theorem st_ok (a : D) (S : Store) (env : Env) (k : D → Store → O) : (R.ok a S).st env k = k a S := rfl
@[simp] theorem sb_ok (a : Bool) (S : Store) (env : Env) (k : Bool → Store → O) : (R.ok a S).sb env k = k a S := rfl
@[simp] theorem st_exc (c : Nat) (as : List D) (S : Store) (env : Env) (k : D → Store → O) : (R.exc c as S).st env k = .exc c as env S := rfl
@[simp] theorem sb_exc (c : Nat) (as : List D) (S : Store) (env : Env) (k : Bool → Store → O) : (R.exc c as S).sb env k = .exc c as env S := rfl
@[simp] theorem ofO_some {α : Type} (a : α) (S : Store) : ofO (some a) S = .ok a S := rfl
theorem eVar_get {i : Nat} {env : Env} {S : Store} {d : D} (h : env[i]? = some (some d)) (hd : d ≠ .err) : eVar i env S = .ok d S := by
  unfold eVar
  rw [h]
  cases d <;> first | rfl | exact absurd rfl hd
@[simp] theorem eVar0 (d : D) (r : Env) (S : Store) (hd : d ≠ .err) : eVar 0 (some d :: r) S = .ok d S := eVar_get rfl hd
@[simp] theorem eVarS (i : Nat) (o : Option D) (r : Env) (S : Store) : eVar (i + 1) (o :: r) S = eVar i r S := rfl
@[simp] theorem eC_ev (d : D) (env : Env) (S : Store) : eC d env S = .ok d S := rfl
@[simp] theorem eUn_ev (f : Store → D → Option D) (a : EM) (env : Env) (S : Store) : eUn f a env S = (a env S).bnd fun x S1 => ofO (f S1 x) S1 := rfl
@[simp] theorem eBin_ev (f : Store → D → D → Option D) (a b : EM) (env : Env) (S : Store) : eBin f a b env S = (a env S).bnd fun x S1 => (b env S1).bnd fun y S2 => ofO (f S2 x y) S2 := rfl
@[simp] theorem aNil_ev (env : Env) (S : Store) : aNil env S = .ok [] S := rfl
@[simp] theorem aCons_ev (a : EM) (r : AM) (env : Env) (S : Store) : aCons a r env S = (a env S).bnd fun x S1 => (r env S1).bnd fun xs S2 => .ok (x :: xs) S2 := rfl
@[simp] theorem eCall_ev (f : FM) (a : AM) (env : Env) (S : Store) : eCall f a env S = (a env S).bnd fun xs S1 => f xs S1 := rfl
@[simp] theorem eBuilt_ev (f : Store → List D → Option D) (a : AM) (env : Env) (S : Store) : eBuilt f a env S = (a env S).bnd fun xs S1 => ofO (f S1 xs) S1 := rfl
@[simp] theorem eTupZ_ev (a : AM) (env : Env) (S : Store) : eTupZ a env S = (a env S).bnd fun xs S1 => if xs.length ≤ 1000 then .ok (.tup xs) S1 else .stuck := rfl
@[simp] theorem eLstZ_ev (a : AM) (env : Env) (S : Store) : eLstZ a env S = (a env S).bnd fun xs S1 => if xs.length ≤ 1000 then .ok (.lst xs) S1 else .stuck := rfl
@[simp] theorem eLstN_ev (a : AM) (env : Env) (S : Store) : eLstN a env S = (a env S).bnd fun xs S1 => if xs.length ≤ 1000 then .ok (.ref S1.length) (S1 ++ [.lst xs]) else .stuck := rfl
@[simp] theorem eAndV_ev (a b : EM) (env : Env) (S : Store) : eAndV a b env S = (a env S).bnd fun x S1 => match x with
  | .bl true => b env S1
  | .bl false => .ok (.bl false) S1
  | _ => .stuck := rfl
@[simp] theorem eOrV_ev (a b : EM) (env : Env) (S : Store) : eOrV a b env S = (a env S).bnd fun x S1 => match x with
  | .bl false => b env S1
  | .bl true => .ok (.bl true) S1
  | _ => .stuck := rfl
@[simp] theorem eIf_ev (t : TM) (a b : EM) (env : Env) (S : Store) : eIf t a b env S = (t env S).bnd fun x S1 => match x with
  | true => a env S1
  | false => b env S1 := rfl
@[simp] theorem eChain_ev (f g : Store → D → D → Option D) (a b c : EM) (env : Env) (S : Store) : eChain f g a b c env S = (a env S).bnd fun x S1 => (b env S1).bnd fun y S2 => match f S2 x y with
  | some (.bl true) => (c env S2).bnd fun z S3 => ofO (g S3 y z) S3
  | some (.bl false) => .ok (.bl false) S2
  | _ => .stuck := rfl
@[simp] theorem tV_ev (a : EM) (env : Env) (S : Store) : tV a env S = (a env S).bnd fun x S1 => match x with
  | .bl b => .ok b S1
  | _ => .stuck := rfl
@[simp] theorem tNot_ev (a : TM) (env : Env) (S : Store) : G.tNot a env S = (a env S).bnd fun b S1 => .ok (!b) S1 := rfl
@[simp] theorem tAnd_ev (a b : TM) (env : Env) (S : Store) : G.tAnd a b env S = (a env S).bnd fun x S1 => match x with
  | true => b env S1
  | false => .ok false S1 := rfl
@[simp] theorem tOr_ev (a b : TM) (env : Env) (S : Store) : G.tOr a b env S = (a env S).bnd fun x S1 => match x with
  | true => .ok true S1
  | false => b env S1 := rfl
@[simp] theorem tTr_ev (a : EM) (env : Env) (S : Store) : tTr a env S = (a env S).bnd fun x S1 => ofO (truD S1 x) S1 := rfl
@[simp] theorem tYes_ev (env : Env) (S : Store) : G.tYes env S = .ok true S := rfl
@[simp] theorem eSl_ev (a : EM) (l h : OM) (env : Env) (S : Store) : eSl a l h env S = (a env S).bnd fun x S1 => (l env S1).bnd fun lo S2 => (h env S2).bnd fun hi S3 => ofO (slD S3 x lo hi) S3 := rfl
@[simp] theorem oNo_ev (env : Env) (S : Store) : oNo env S = .ok none S := rfl
@[simp] theorem oSo_ev (a : EM) (env : Env) (S : Store) : oSo a env S = (a env S).bnd fun x S1 => match x with
  | .int i => .ok (some i) S1
  | _ => .stuck := rfl
@[simp] theorem sNil_ev (env : Env) (S : Store) : sNil env S = .nx env S := rfl
@[simp] theorem sSeq_ev (a b : SM) (env : Env) (S : Store) : sSeq a b env S = match a env S with
  | .nx e S1 => b e S1
  | o => o := rfl
@[simp] theorem sSet_ev (p : Pat) (a : EM) (env : Env) (S : Store) : sSet p a env S = (a env S).st env fun d S1 => match bindP p d env with
  | some e => .nx e S1
  | none => .stuck := rfl
@[simp] theorem sRet_ev (a : EM) (env : Env) (S : Store) : sRet a env S = (a env S).st env fun d S1 => .rt d S1 := rfl
@[simp] theorem sRetN_ev (env : Env) (S : Store) : sRetN env S = .rt .non S := rfl
@[simp] theorem sExpr_ev (a : EM) (env : Env) (S : Store) : sExpr a env S = (a env S).st env fun _ S1 => .nx env S1 := rfl
@[simp] theorem sIf_ev (t : TM) (a b : SM) (env : Env) (S : Store) : sIf t a b env S = (t env S).sb env fun x S1 => match x with
  | true => a env S1
  | false => b env S1 := rfl
@[simp] theorem sRaise_ev (c : Nat) (a : AM) (env : Env) (S : Store) : sRaise c a env S = match a env S with
  | .ok xs S1 => .exc c xs env S1
  | .exc c as S1 => .exc c as env S1
  | .stuck => .stuck := rfl
@[simp] theorem sPar_ev (is : List Nat) (a : AM) (env : Env) (S : Store) : sPar is a env S = match a env S with
  | .ok ds S1 => match bindPs (is.map Pat.nm) ds env with
    | some e => .nx e S1
    | none => .stuck
  | .exc c as S1 => .exc c as env S1
  | .stuck => .stuck := rfl
@[simp] theorem iSeq_ev (a : EM) (env : Env) (S : Store) : iSeq a env S = (a env S).bnd fun x S1 => match x with
  | .lst xs => .ok xs S1
  | .tup xs => .ok xs S1
  | _ => .stuck := rfl
@[simp] theorem iRange1_ev (a : EM) (env : Env) (S : Store) : iRange1 a env S = (a env S).bnd fun x S1 => rg1 x S1 := rfl
@[simp] theorem iRange2_ev (a b : EM) (env : Env) (S : Store) : iRange2 a b env S = (a env S).bnd fun x S1 => (b env S1).bnd fun y S2 => rg2 x y S2 := rfl
@[simp] theorem iEnum_ev (a : EM) (env : Env) (S : Store) : iEnum a env S = (iSeq a env S).bnd fun xs S1 => .ok (enumD 0 xs) S1 := rfl
@[simp] theorem iZipG_ev (a b : EM) (env : Env) (S : Store) : iZipG a b env S = (a env S).bnd fun x S1 => (b env S1).bnd fun y S2 => match x, y with
  | .lst xs, .lst ys => .ok (zipD xs ys) S2
  | .tup xs, .tup ys => .ok (zipD xs ys) S2
  | _, _ => .stuck := rfl
@[simp] theorem eLc_ev (own : List Nat) (p : Pat) (it : IM) (t : TM) (elt : EM) (env : Env) (S : Store) : eLc own p it t elt env S = (it env S).bnd fun ds S1 => goLc own p t elt env ds [] S1 := rfl
@[simp] theorem sFor_ev (p : Pat) (it : IM) (body : SM) (env : Env) (S : Store) : sFor p it body env S = match it env S with
  | .ok ds S1 => goFor p body ds env S1
  | .exc c as S1 => .exc c as env S1
  | .stuck => .stuck := rfl
@[simp] theorem rd_tupE (S : Store) (xs : List D) : rd S (.tup xs) = .tup xs := rfl
@[simp] theorem rd_lstE (S : Store) (xs : List D) : rd S (.lst xs) = .lst xs := rfl
@[simp] theorem rd_intE (S : Store) (i : Int) : rd S (.int i) = .int i := rfl
@[simp] theorem rd_blE (S : Store) (i : Bool) : rd S (.bl i) = .bl i := rfl
@[simp] theorem rd_nonE (S : Store) : rd S .non = .non := rfl
@[simp] theorem rd_strE (S : Store) (x : List Nat) : rd S (.str x) = .str x := rfl
@[simp] theorem rd_scrE (S : Store) (x : List Int) : rd S (.scr x) = .scr x := rfl
@[simp] theorem truD_tup (S : Store) (xs : List D) : truD S (.tup xs) = some (!xs.isEmpty) := rfl
@[simp] theorem truD_lst (S : Store) (xs : List D) : truD S (.lst xs) = some (!xs.isEmpty) := rfl
@[simp] theorem truD_bl (S : Store) (b : Bool) : truD S (.bl b) = some b := rfl
@[simp] theorem truD_scr (S : Store) (xs : List Int) : truD S (.scr xs) = some (!xs.isEmpty) := rfl
@[simp] theorem bindP_nm (i : Nat) (d : D) (env : Env) : bindP (.nm i) d env = some (env.set i (some d)) := by simp [bindP]
@[simp] theorem bindP_tp (ps : List Pat) (ds : List D) (env : Env) : bindP (.tp ps) (.tup ds) env = bindPs ps ds env := by simp [bindP]
@[simp] theorem bindPs_nil (env : Env) : bindPs [] [] env = some env := by simp [bindPs]
@[simp] theorem bindPs_cons (p : Pat) (ps : List Pat) (d : D) (ds : List D) (env : Env) : bindPs (p :: ps) (d :: ds) env = match bindP p d env with
  | some e => bindPs ps ds e
  | none => none := by
  first
    | (rw [bindPs]; done)
    | (rw [bindPs]; cases bindP p d env <;> rfl)
@[simp] theorem ofO2_nx (e : Env) (S : Store) : ofO2 (.nx e S) = .ok .non S := rfl
@[simp] theorem ofO2_rt (d : D) (S : Store) : ofO2 (.rt d S) = .ok d S := rfl
@[simp] theorem ofO2_exc (c : Nat) (as : List D) (e : Env) (S : Store) : ofO2 (.exc c as e S) = .exc c as S := rfl
/-! ### data without objects of the store -/
@[simp] theorem nr_non : D.nr .non = true := rfl
@[simp] theorem nr_bl (b : Bool) : D.nr (.bl b) = true := rfl
@[simp] theorem nr_int (b : Int) : D.nr (.int b) = true := rfl
@[simp] theorem nr_str (b : List Nat) : D.nr (.str b) = true := rfl
@[simp] theorem nr_scr (b : List Int) : D.nr (.scr b) = true := rfl
@[simp] theorem nr_tup (b : List D) : D.nr (.tup b) = nrL b := by simp [D.nr]
@[simp] theorem nr_lst (b : List D) : D.nr (.lst b) = nrL b := by simp [D.nr]
@[simp] theorem nrL_nil : nrL [] = true := by simp [nrL]
@[simp] theorem nrL_cons (x : D) (r : List D) : nrL (x :: r) = (x.nr && nrL r) := by simp [nrL]
@[simp] theorem nrL_app (a b : List D) : nrL (a ++ b) = (nrL a && nrL b) := by
  induction a with
  | nil => simp
  | cons x r ih => simp [ih, Bool.and_assoc]
theorem nrL_all (a : List D) : nrL a = a.all D.nr := by
  induction a with
  | nil => simp
  | cons x r ih => simp [ih]
@[simp] theorem nrL_map {α : Type} (f : α → D) (h : ∀ x, (f x).nr = true) (xs : List α) : nrL (xs.map f) = true := by
  rw [nrL_all]; simp [h]
@[simp] theorem nrL_ints (l : List Int) : nrL (l.map D.int) = true := by rw [nrL_all]; simp
@[simp] theorem nrL_intsc {α : Type} (f : α → Int) (l : List α) : nrL (l.map (D.int ∘ f)) = true := by rw [nrL_all]; simp
@[simp] theorem nrL_rep (k : Nat) (d : D) (h : d.nr = true) : nrL (List.replicate k d) = true := by rw [nrL_all]; simp [h]
theorem pureR_ok (S S1 : Store) (d : D) (h : d.nr = true) : pureR S (.ok d S1) = .ok d S := by
  unfold pureR freeze
  cases d <;> first | (simp only [h, if_pos rfl]; rfl) | cases h
/-- a pure def's value -/
theorem fnP_ok {m n : Nat} {body : SM} {xs : List D} {S S1 : Store} {d : D} (hm : xs.length = m) (hx : nrL xs = true) (h : ofO2 (body (envOf n xs) []) = .ok d S1) (hd : d.nr = true) : fnP m n body xs S = .ok d S := by
  unfold fnP
  simp only [hm, hx, beq_self_eq_true, Bool.and_self]
  rw [h, pureR_ok _ _ _ hd]
/-- .. a list of its own that comes back -/
theorem fnP_lst {m n : Nat} {body : SM} {xs ys : List D} {S S1 : Store} {k : Nat} (hm : xs.length = m) (hx : nrL xs = true) (h : ofO2 (body (envOf n xs) []) = .ok (.ref k) S1) (hk : S1[k]? = some (.lst ys)) (hy : nrL ys = true) : fnP m n body xs S = .ok (.lst ys) S := by
  unfold fnP
  simp only [hm, hx, beq_self_eq_true, Bool.and_self]
  rw [h]
  unfold pureR freeze
  simp only [hk, hy, if_pos rfl]
  rfl
/-- .. its error -/
theorem fnP_exc {m n c : Nat} {body : SM} {xs as : List D} {S S1 : Store} (hm : xs.length = m) (hx : nrL xs = true) (h : ofO2 (body (envOf n xs) []) = .exc c as S1) (ha : nrL as = true) : fnP m n body xs S = .exc c as S := by
  unfold fnP
  simp only [hm, hx, beq_self_eq_true, Bool.and_self]
  rw [h]
  unfold pureR
  simp [ha]
theorem fnR_of {m n : Nat} {body : SM} {xs : List D} {S : Store} (hm : xs.length = m) : fnR m n body xs S = ofO2 (body (envOf n xs) S) := by
  unfold fnR
  simp [hm]
@[simp] theorem set_0 (o o' : Option D) (r : Env) : List.set (o :: r) 0 o' = o' :: r := rfl
@[simp] theorem set_S (i : Nat) (o o' : Option D) (r : Env) : List.set (o :: r) (i + 1) o' = o :: r.set i o' := rfl
/-! ### comprehensions over encoded lists -/
theorem goLc_enc {α : Type} {own : List Nat} {p : Pat} {t : TM} {elt : EM} {env : Env} {S : Store} (enc : α → D) (c : α → Bool) (g : α → D) : ∀ (xs : List α) (acc : List D)
    (_ : ∀ x ∈ xs, ∃ e, bindP p (enc x) (wipeE own env) = some e ∧ t e S = .ok (c x) S ∧ (c x = true → elt e S = .ok (g x) S)) (_ : acc.length + xs.length < 10000000),
    goLc own p t elt env (xs.map enc) acc S = .ok (.lst (acc ++ (xs.filter c).map g)) S
  | [], acc, _, _ => by simp [goLc]
  | x :: xs, acc, h, hl => by
    obtain ⟨e, h1, h2, h3⟩ := h x List.mem_cons_self
    have h' := fun y hy => h y (List.mem_cons_of_mem _ hy)
    simp only [List.map_cons, goLc, h1, h2]
    cases hc : c x with
    | false =>
      simp only [List.filter_cons, hc]
      exact goLc_enc enc c g xs acc h' (by simp at hl; omega)
    | true =>
      simp only [List.filter_cons, hc, h3 hc]
      have hb : Nat.blt acc.length 10000000 = true := by simp at hl; simp [Nat.blt_eq]; omega
      simp only [hb, if_pos rfl]
      rw [goLc_enc enc c g xs (acc ++ [g x]) h' (by simp at hl ⊢; omega)]
      simp
theorem goLc_all {α : Type} {own : List Nat} {p : Pat} {elt : EM} {env : Env} {S : Store} (enc : α → D) (g : α → D) (xs : List α)
    (h : ∀ x ∈ xs, ∃ e, bindP p (enc x) (wipeE own env) = some e ∧ elt e S = .ok (g x) S) (hl : xs.length < 10000000) : goLc own p G.tYes elt env (xs.map enc) [] S = .ok (.lst (xs.map g)) S := by
  rw [goLc_enc enc (fun _ => true) g xs [] (fun x hx => by
    obtain ⟨e, h1, h2⟩ := h x hx
    exact ⟨e, h1, rfl, fun _ => h2⟩) (by simpa using hl)]
  rw [List.filter_eq_self.mpr (fun _ _ => rfl), List.nil_append]
@[simp] theorem boolsOf_map {α : Type} (f : α → Bool) : ∀ xs : List α, boolsOf (xs.map fun x => D.bl (f x)) = some (xs.map f)
  | [] => rfl
  | x :: r => by simp [boolsOf, boolsOf_map f r]
@[simp] theorem fAll_map {α : Type} (S : Store) (f : α → Bool) (xs : List α) : fAll S [.lst (xs.map fun x => D.bl (f x))] = some (.bl (xs.all f)) := by
  simp [fAll]
@[simp] theorem fAny_map {α : Type} (S : Store) (f : α → Bool) (xs : List α) : fAny S [.lst (xs.map fun x => D.bl (f x))] = some (.bl (xs.any f)) := by
  simp [fAny]
@[simp] theorem intsOf_map : ∀ xs : List Int, intsOf (xs.map D.int) = some xs
  | [] => rfl
  | x :: r => by simp [intsOf, intsOf_map r]
end G
end

section
set_option Elab.async false
set_option linter.all false
set_option maxRecDepth 100000
set_option maxHeartbeats 4000000
/-! P1: typed data; nets are nets. By an AI agent. -/
namespace G
abbrev Bd := Int × Int × Int
abbrev La := Int × Int × Int × Int
def dB (b : Bd) : D := .tup [.int b.1, .int b.2.1, .int b.2.2]
def dL (l : La) : D := .tup [.int l.1, .int l.2.1, .int l.2.2.1, .int l.2.2.2]
structure Nt where
  many : Int
  bs : List Bd
  ls : List La
def dN (n : Nt) : D := .tup [.int n.many, .tup (n.bs.map dB), .tup (n.ls.map dL)]
def dO : Option Int → D
  | none => .non
  | some i => .int i
def dTs (ts : List (Option Int)) : D := .tup (ts.map dO)
def dLot (l : List Int) : D := .tup (l.map D.int)
def dPl (m : Int) (ts : List (Option Int)) : D := .tup [.int m, dTs ts]
@[simp] theorem nr_dB (b : Bd) : (dB b).nr = true := by simp [dB]
@[simp] theorem nr_dL (b : La) : (dL b).nr = true := by simp [dL]
@[simp] theorem nr_dO (b : Option Int) : (dO b).nr = true := by cases b <;> rfl
@[simp] theorem nr_dTs (b : List (Option Int)) : (dTs b).nr = true := by simp [dTs]
@[simp] theorem nr_dLot (b : List Int) : (dLot b).nr = true := by simp [dLot, nrL_all]
@[simp] theorem nr_dPl (m : Int) (b : List (Option Int)) : (dPl m b).nr = true := by simp [dPl]
@[simp] theorem nr_dN (n : Nt) : (dN n).nr = true := by simp [dN]
@[simp] theorem ok_dB (b : Bd) : (dB b) ≠ .err := fun z => nomatch z
@[simp] theorem ok_dL (b : La) : (dL b) ≠ .err := fun z => nomatch z
@[simp] theorem ok_dO (b : Option Int) : dO b ≠ .err := by cases b <;> exact fun z => nomatch z
@[simp] theorem ok_dTs (b : List (Option Int)) : (dTs b) ≠ .err := fun z => nomatch z
@[simp] theorem ok_dLot (b : List Int) : (dLot b) ≠ .err := fun z => nomatch z
@[simp] theorem ok_dPl (m : Int) (b : List (Option Int)) : (dPl m b) ≠ .err := fun z => nomatch z
@[simp] theorem ok_dN (n : Nt) : (dN n) ≠ .err := fun z => nomatch z
@[simp] theorem bIx_tup (S : Store) (xs : List D) (i : Int) : bIx S (.tup xs) (.int i) = atD xs i := rfl
@[simp] theorem bIx_lst (S : Store) (xs : List D) (i : Int) : bIx S (.lst xs) (.int i) = atD xs i := rfl
@[simp] theorem atD_0 (x : D) (r : List D) : atD (x :: r) 0 = some x := by simp [atD, ixN]
theorem atD_nat (xs : List D) (k : Nat) : atD xs (k : Int) = xs[k]? := by
  unfold atD ixN
  rw [if_pos (by omega)]
  by_cases h : k < xs.length
  · rw [if_pos (by omega)]; simp
  · rw [if_neg (by omega)]; simp; omega
@[simp] theorem atD_1 (x y : D) (r : List D) : atD (x :: y :: r) 1 = some y := atD_nat _ 1
@[simp] theorem atD_2 (x y z : D) (r : List D) : atD (x :: y :: z :: r) 2 = some z := atD_nat _ 2
@[simp] theorem atD_3 (x y z u : D) (r : List D) : atD (x :: y :: z :: u :: r) 3 = some u := atD_nat _ 3
@[simp] theorem bSub_i (S : Store) (i j : Int) : bSub S (.int i) (.int j) = some (.int (i - j)) := rfl
@[simp] theorem bAdd_i (S : Store) (i j : Int) : bAdd S (.int i) (.int j) = some (.int (i + j)) := rfl
@[simp] theorem bLe_i (S : Store) (i j : Int) : bLe S (.int i) (.int j) = some (.bl (decide (i ≤ j))) := rfl
@[simp] theorem bLt_i (S : Store) (i j : Int) : bLt S (.int i) (.int j) = some (.bl (decide (i < j))) := rfl
@[simp] theorem bGt_i (S : Store) (i j : Int) : bGt S (.int i) (.int j) = some (.bl (decide (j < i))) := rfl
@[simp] theorem bGe_i (S : Store) (i j : Int) : bGe S (.int i) (.int j) = some (.bl (decide (j ≤ i))) := rfl
@[simp] theorem bEq_i (S : Store) (i j : Int) : bEq S (.int i) (.int j) = some (.bl (decide (i = j))) := by simp [bEq, dEq, deep, D.pl, D.eqv, toB]
@[simp] theorem bNe_i (S : Store) (i j : Int) : bNe S (.int i) (.int j) = some (.bl (!decide (i = j))) := by simp [bNe, dEq, deep, D.pl, D.eqv]
@[simp] theorem fLen_tup (S : Store) (xs : List D) : fLen S [.tup xs] = some (.int xs.length) := rfl
@[simp] theorem fLen_lst (S : Store) (xs : List D) : fLen S [.lst xs] = some (.int xs.length) := rfl
@[simp] theorem fTuple_tup (S : Store) (xs : List D) : fTuple S [.tup xs] = some (.tup xs) := rfl
@[simp] theorem fTuple_lst (S : Store) (xs : List D) : fTuple S [.lst xs] = some (.tup xs) := rfl
@[simp] theorem uIs_tt (S : Store) (xs : List D) : uIs .tuple S (.tup xs) = some (.bl true) := rfl
@[simp] theorem uIs_tn (S : Store) : uIs .tuple S .non = some (.bl false) := rfl
@[simp] theorem uIs_tl (S : Store) (xs : List D) : uIs .tuple S (.lst xs) = some (.bl false) := rfl
@[simp] theorem slD_tail (S : Store) (xs : List D) : slD S (.tup xs) (some 1) none = some (.tup xs.tail) := by
  cases xs <;> simp [slD, cut, sIx]
def inR (lo hi t : Int) : Bool := decide (lo ≤ t ∧ t ≤ hi)
theorem inR_iff {lo hi t : Int} : inR lo hi t = true ↔ lo ≤ t ∧ t ≤ hi := by simp [inR]
/-- pairs of neighbours -/
def nbr {α : Type} : List α → List (α × α)
  | x :: y :: r => (x, y) :: nbr (y :: r)
  | _ => []
/-- things that ascend -/
def rise {α : Type} (lt : α → α → Bool) (xs : List α) : Bool := (nbr xs).all fun p => lt p.1 p.2
theorem zip_tail {α : Type} (enc : α → D) : ∀ xs : List α, zipD (xs.map enc) (xs.map enc).tail = (nbr xs).map fun p => D.tup [enc p.1, enc p.2]
  | [] => rfl
  | [x] => rfl
  | x :: y :: r => by
    have := zip_tail enc (y :: r)
    simp only [List.map_cons, List.tail_cons, zipD, nbr] at this ⊢
    rw [this]
theorem nbr_len {α : Type} : ∀ xs : List α, (nbr xs).length ≤ xs.length
  | [] => by simp [nbr]
  | [x] => by simp [nbr]
  | x :: y :: r => by
    have := nbr_len (y :: r)
    simp only [nbr, List.length_cons] at this ⊢; omega
end G
namespace K97
open G
theorem is_int_i (t : Int) (S : Store) : fm_is_int [.int t] S = .ok (.bl true) S := rfl
theorem is_within_i (t lo hi : Int) (S : Store) : fm_is_within [.int t, .int lo, .int hi] S = .ok (.bl (inR lo hi t)) S := by
  refine fnP_ok rfl (by simp) (S1 := []) ?_ rfl
  by_cases h : lo ≤ t <;> simp [m_is_within, envOf, is_int_i, h, inR]
theorem is_sized_t (xs : List D) (h : nrL xs = true) (lo hi : Int) (S : Store) : fm_is_sized [.tup xs, .int lo, .int hi] S = .ok (.bl (inR lo hi xs.length)) S := by
  refine fnP_ok rfl (by simp [h]) (S1 := []) ?_ rfl
  by_cases h : lo ≤ (xs.length : Int) <;> simp [m_is_sized, envOf, h, inR]
theorem is_sized_n (lo hi : Int) (S : Store) : fm_is_sized [.non, .int lo, .int hi] S = .ok (.bl false) S := rfl
theorem is_rising_of {α : Type} (enc : α → D) (lt : α → α → Bool) (hok : ∀ x, enc x ≠ .err) (hn : ∀ x, (enc x).nr = true) (hlt : ∀ S x y, bLt S (enc x) (enc y) = some (.bl (lt x y))) (xs : List α) (hl : xs.length < 1000000) (S : Store) :
    fm_is_rising [.tup (xs.map enc)] S = .ok (.bl (rise lt xs)) S := by
  refine fnP_ok rfl (by simp [hn]) (S1 := []) ?_ rfl
  have := nbr_len xs
  simp only [m_is_rising, envOf, sRet_ev, eBuilt_ev, aCons_ev, aNil_ev, eLc_ev, iZipG_ev, eSl_ev, oSo_ev, oNo_ev, eC_ev, bnd_ok]
  simp only [List.map_cons, List.map_nil, List.length_cons, List.length_nil, List.cons_append, List.nil_append, eVar0, ne_eq, reduceCtorEq, not_false_eq_true, bnd_ok, slD_tail, ofO_some, zip_tail]
  rw [goLc_all (fun p : α × α => D.tup [enc p.1, enc p.2]) (fun p => D.bl (lt p.1 p.2)) (nbr xs) (fun p hp => ?_) (by omega)]
  · simp [rise]
  · refine ⟨_, by simp [wipeE]; rfl, ?_⟩
    simp [hok, hlt]
theorem is_lot_i (l : List Int) (many : Int) (hl : l.length < 1000000) (S : Store) : fm_is_lot [dLot l, .int many] S = .ok (.bl (l.all (inR 0 (many - 1)) && rise (fun x y => decide (x < y)) l)) S := by
  refine fnP_ok rfl (by simp) (S1 := []) ?_ rfl
  have e1 : goLc [2] (.nm 2) G.tYes (eCall fm_is_within (aCons (eVar 2) (aCons (eC (.int 0)) (aCons (eBin bSub (eVar 1) (eC (.int 1))) aNil)))) [some (dLot l), some (.int many), none] (l.map D.int) [] [] = .ok (.lst (l.map fun x => .bl (inR 0 (many - 1) x))) [] := by
    refine goLc_all D.int _ l (fun x hx => ⟨_, by simp [wipeE]; rfl, ?_⟩) (by omega)
    simp [is_within_i]
  have e2 := is_rising_of D.int (fun x y => decide (x < y)) (fun _ z => nomatch z) (fun _ => rfl) (fun _ _ _ => rfl) l hl []
  simp only [dLot] at e1 ⊢
  cases h : l.all (inR 0 (many - 1)) <;> simp [m_is_lot, envOf, dLot, e1, e2, h]
end K97
end

section
set_option Elab.async false
set_option linter.all false
set_option maxRecDepth 100000
set_option maxHeartbeats 4000000
/-! P2: nets are nets. By an AI agent. -/
namespace G
@[simp] theorem dLt_tI (xs ys : List Int) (S : Store) : bLt S (.tup (xs.map D.int)) (.tup (ys.map D.int)) = some (.bl (lexI xs ys)) := by simp [bLt, dLt, toB]
theorem dB_eq (b : Bd) : dB b = .tup ([b.1, b.2.1, b.2.2].map D.int) := rfl
theorem dL_eq (b : La) : dL b = .tup ([b.1, b.2.1, b.2.2.1, b.2.2.2].map D.int) := rfl
def lB (b : Bd) : List Int := [b.1, b.2.1, b.2.2]
def lB2 (b : Bd) : List Int := [b.1, b.2.1]
def lL (b : La) : List Int := [b.1, b.2.1, b.2.2.1, b.2.2.2]
theorem slD_2 (S : Store) (x y z : D) : slD S (.tup [x, y, z]) none (some 2) = some (.tup [x, y]) := rfl
/-- a dict of ints by keys, made by a comprehension -/
theorem dput_new (k : Int) (v : D) (kvs : List (D × D)) (h : ∀ kv ∈ kvs, kv.1.eqv (.int k) = false) : dput (.int k) v kvs = kvs ++ [(.int k, v)] := by
  unfold dput
  rw [if_neg]
  simp only [List.any_eq_true, not_exists, not_and]
  intro kv hkv
  rw [h kv hkv]; simp
theorem goDc_int {α : Type} {own : List Nat} {p : Pat} {kx vx : EM} {env : Env} {n : Nat} (enc : α → D) (key : α → Int) (val : α → D) : ∀ (xs : List α) (acc : List (D × D)) (S : Store)
    (_ : ∀ x ∈ xs, ∃ e, bindP p (enc x) (wipeE own env) = some e ∧ ∀ S, kx e S = .ok (.int (key x)) S ∧ vx e S = .ok (val x) S) (_ : S[n]? = some (.dicK acc)) (_ : (xs.map key).Nodup) (_ : ∀ x ∈ xs, ∀ kv ∈ acc, kv.1.eqv (.int (key x)) = false) (_ : acc.length + xs.length < 10000000),
    goDc own p G.tYes kx vx n env (xs.map enc) S = .ok (.ref n) (S.set n (.dicK (acc ++ xs.map fun x => (.int (key x), val x))))
  | [], acc, S, _, hS, _, _, _ => by
    have : S.set n (.dicK acc) = S := by
      apply List.ext_getElem?
      intro j
      by_cases e : n = j
      · subst e
        rw [List.getElem?_set_self (List.getElem?_eq_some_iff.mp hS).1, hS]
      · rw [List.getElem?_set_ne e]
    simp [goDc, this]
  | x :: xs, acc, S, h, hS, nd, ha, hl => by
    obtain ⟨e, h1, h2⟩ := h x List.mem_cons_self
    obtain ⟨n1, n2⟩ := List.nodup_cons.mp nd
    simp only [List.map_cons, goDc, h1, tYes_ev, (h2 S).1, (h2 S).2]
    have hp : putAtK S n (.int (key x)) (val x) = some (S.set n (.dicK (acc ++ [(.int (key x), val x)]))) := by
      unfold putAtK
      rw [hS]
      have : Nat.blt acc.length 10000000 = true := by simp at hl; simp [Nat.blt_eq]; omega
      simp [isKeyK, this, dput_new _ _ _ (ha x List.mem_cons_self)]
    simp only [hp]
    have hn : n < S.length := (List.getElem?_eq_some_iff.mp hS).1
    rw [goDc_int enc key val xs (acc ++ [(.int (key x), val x)]) _ (fun y hy => h y (List.mem_cons_of_mem _ hy)) (by rw [List.getElem?_set_self hn]) n2 (fun y hy kv hkv => ?_) (by simp at hl ⊢; omega)]
    · simp
    · rcases List.mem_append.mp hkv with q | q
      · exact ha y (List.mem_cons_of_mem _ hy) kv q
      · rw [List.mem_singleton.mp q]
        have : key x ≠ key y := fun z => n1 (z ▸ List.mem_map_of_mem hy)
        simp [D.eqv, this]
/-- looking up an int among int keys -/
theorem dget_int (k : Int) : ∀ kvs : List (Int × D), dget (.int k) (kvs.map fun kv => (D.int kv.1, kv.2)) = kvs.lookup k
  | [] => rfl
  | (j, d) :: r => by
    simp only [List.map_cons, dget, D.eqv, List.lookup_cons]
    by_cases h : j = k
    · subst h; simp
    · simp only [h, decide_false, Bool.false_eq_true, if_false]
      rw [dget_int k r]
      simp [beq_eq_false_iff_ne.mpr (Ne.symm h)]
/-- what makes a net of typed data a net -/
def okB (many : Int) (b : Bd) : Bool := inR 0 (many - 1) b.1 && (inR 0 (many - 1) b.2.1 && (!decide (b.1 = b.2.1) && inR (-100000) 100000 b.2.2))
def okL (many : Int) (l : La) : Bool := inR 0 (many - 1) l.1 && (inR 1 (many - 1) l.2.2.2 && (inR 1 1000 l.2.1 && (inR 1 1000 l.2.2.1 && (decide (l.2.1 ≤ l.2.2.1) && !decide (l.1 = l.2.2.2)))))
structure WN (n : Nt) : Prop where
  many : inR 1 16 n.many = true
  bl : n.bs.length ≤ 60
  bo : n.bs.all (okB n.many) = true
  br : rise (fun x y => lexI (lB2 x) (lB2 y)) n.bs = true
  ll : n.ls.length ≤ 5
  lo : n.ls.all (okL n.many) = true
  lr : rise (fun x y => lexI (lL x) (lL y)) n.ls = true
  nd : (n.ls.map fun l => l.2.2.2).Nodup
  rk : ∃ pos : Int → Nat, ∀ l ∈ n.ls, pos l.1 < pos l.2.2.2
end G
namespace K97
open G
theorem is_bound_b (many : Int) (b : Bd) (S : Store) : fm_is_bound [.int many, dB b] S = .ok (.bl (okB many b)) S := by
  refine fnP_ok rfl (by simp) (S1 := []) ?_ rfl
  obtain ⟨i, j, w⟩ := b
  have h0 : ∀ i j w : Int, fm_is_sized [.tup [.int i, .int j, .int w], .int 3, .int 3] [] = .ok (.bl true) [] := fun i j w => is_sized_t [.int i, .int j, .int w] (by simp) 3 3 []
  cases h1 : inR 0 (many - 1) i <;> cases h2 : inR 0 (many - 1) j <;> by_cases h3 : i = j <;> simp [m_is_bound, envOf, dB, h0, is_within_i, h1, h2, h3, okB]
theorem is_last_l (many : Int) (b : La) (S : Store) : fm_is_last [.int many, dL b] S = .ok (.bl (okL many b)) S := by
  refine fnP_ok rfl (by simp) (S1 := []) ?_ rfl
  obtain ⟨a, low, high, c⟩ := b
  have h0 : ∀ a low high c : Int, fm_is_sized [.tup [.int a, .int low, .int high, .int c], .int 4, .int 4] [] = .ok (.bl true) [] := fun a low high c => is_sized_t [.int a, .int low, .int high, .int c] (by simp) 4 4 []
  cases h1 : inR 0 (many - 1) a <;> cases h2 : inR 1 (many - 1) c <;> cases h3 : inR 1 1000 low <;> cases h4 : inR 1 1000 high <;> by_cases h5 : low ≤ high <;> simp [m_is_last, envOf, dL, h0, is_within_i, h1, h2, h3, h4, h5, okL]
theorem are_bounds_b (n : Nt) (w : WN n) (S : Store) : fm_are_bounds [.int n.many, .tup (n.bs.map dB)] S = .ok (.bl true) S := by
  refine fnP_ok rfl (by simp) (S1 := []) ?_ rfl
  have h0 := is_sized_t (n.bs.map dB) (by simp) 0 60 []
  rw [List.length_map, show inR 0 60 (n.bs.length : Int) = true by have := w.bl; rw [inR_iff]; omega] at h0
  have e1 : goLc [2] (.nm 2) G.tYes (eCall fm_is_bound (aCons (eVar 0) (aCons (eVar 2) aNil))) [some (.int n.many), some (.tup (n.bs.map dB)), none, none] (n.bs.map dB) [] [] = .ok (.lst (n.bs.map fun x => .bl (okB n.many x))) [] := by
    refine goLc_all dB _ n.bs (fun x hx => ⟨_, by simp [wipeE]; rfl, ?_⟩) (by have := w.bl; omega)
    simp [is_bound_b]
  have e2 : goLc [2, 3] (.tp [.nm 2, .nm 3]) G.tYes (eBin bLt (eSl (eVar 2) oNo (oSo (eC (.int 2)))) (eSl (eVar 3) oNo (oSo (eC (.int 2))))) [some (.int n.many), some (.tup (n.bs.map dB)), none, none] ((nbr n.bs).map fun p => D.tup [dB p.1, dB p.2]) [] [] = .ok (.lst ((nbr n.bs).map fun p => .bl (lexI (lB2 p.1) (lB2 p.2)))) [] := by
    refine goLc_all (fun p : Bd × Bd => D.tup [dB p.1, dB p.2]) _ (nbr n.bs) (fun x hx => ⟨_, by simp [wipeE]; rfl, ?_⟩) (by have := w.bl; have := nbr_len n.bs; omega)
    have := dLt_tI (lB2 x.1) (lB2 x.2) []
    simp only [lB2, List.map_cons, List.map_nil] at this
    simp [dB, slD_2, this, lB2]
  have e3 := w.br
  unfold rise at e3
  simp [m_are_bounds, envOf, h0, e1, w.bo, zip_tail, e2, e3]
end K97
end

section
set_option Elab.async false
set_option linter.all false
set_option maxRecDepth 100000
set_option maxHeartbeats 4000000
/-! P3: ends lead back to no end again; a net is one. By an AI agent. -/
namespace G
theorem countP_lt {α : Type} (p q : α → Bool) : ∀ (xs : List α), (∀ x, p x = true → q x = true) → (∃ x ∈ xs, q x = true ∧ p x = false) → xs.countP p < xs.countP q
  | [], _, h => by obtain ⟨x, h, _⟩ := h; cases h
  | x :: xs, hi, h => by
    have le : ∀ xs : List α, xs.countP p ≤ xs.countP q := fun xs => List.countP_mono_left (fun y _ => hi y)
    obtain ⟨y, hy, h1, h2⟩ := h
    rcases List.mem_cons.mp hy with rfl | hy
    · rw [List.countP_cons, List.countP_cons, h1, h2]
      have := le xs
      simp; omega
    · have ih := countP_lt p q xs hi ⟨y, hy, h1, h2⟩
      rw [List.countP_cons, List.countP_cons]
      cases hp : p x with
      | false => cases q x <;> simp <;> omega
      | true => rw [hi x hp]; simp; omega
def pk (ls : List La) : List (Int × D) := ls.map fun l => (l.2.2.2, D.int l.1)
def kvL (ls : List La) : List (D × D) := (pk ls).map fun kv => (D.int kv.1, kv.2)
theorem look_pk (h : Int) : ∀ ls : List La, ((pk ls).lookup h = none) ∨ ∃ l ∈ ls, l.2.2.2 = h ∧ (pk ls).lookup h = some (.int l.1)
  | [] => .inl rfl
  | l :: ls => by
    simp only [pk, List.map_cons, List.lookup_cons]
    by_cases e : h = l.2.2.2
    · subst e
      exact .inr ⟨l, List.mem_cons_self, rfl, by simp⟩
    · rw [beq_eq_false_iff_ne.mpr e]
      rcases look_pk h ls with h1 | ⟨m, h1, h2, h3⟩
      · exact .inl h1
      · exact .inr ⟨m, List.mem_cons_of_mem _ h1, h2, h3⟩
end G
namespace K97
open G
/-- the state of the walk back -/
def rEnv (ls : List La) (ev : D) (h s : Int) : Env := [some (.tup (ls.map dL)), some (.ref 0), some ev, none, some (.int h), some (.int s)]
theorem rooted_while (ls : List La) (pos : Int → Nat) (hp : ∀ l ∈ ls, pos l.1 < pos l.2.2.2) (ev : D) : ∀ (F : Nat) (h s : Int), (s + (ls.countP fun l => decide (pos l.2.2.2 ≤ pos h)) ≤ ls.length) → ls.countP (fun l => decide (pos l.2.2.2 ≤ pos h)) < F →
    ∃ h' s', (pk ls).lookup h' = none ∧ goWhile (G.tAnd (tV (eBin bInD (eVar 4) (eVar 1))) (tV (eBin bLe (eVar 5) (eBuilt fLen (aCons (eVar 0) aNil))))) (sPar [4, 5] (aCons (eBin bIx (eVar 1) (eVar 4)) (aCons (eBin bAdd (eVar 5) (eC (.int 1))) aNil))) F (rEnv ls ev h s) [.dicG (kvL ls)] = .nx (rEnv ls ev h' s') [.dicG (kvL ls)]
  | 0, h, s, _, hF => by omega
  | F + 1, h, s, hs, hF => by
    unfold goWhile
    rcases look_pk h ls with h1 | ⟨l, h1, h2, h3⟩
    · refine ⟨h, s, h1, ?_⟩
      have : bInD [.dicG (kvL ls)] (.int h) (.ref 0) = some (.bl false) := by simp [bInD, bIn, dicAt, isKeyK, kvL, dget_int, h1, toB]
      simp [rEnv, this]
    · have c1 : ls.countP (fun m => decide (pos m.2.2.2 ≤ pos l.1)) < ls.countP fun m => decide (pos m.2.2.2 ≤ pos h) := by
        have := hp l h1
        rw [h2] at this
        refine countP_lt _ _ ls (fun x hx => ?_) ⟨l, h1, ?_, ?_⟩
        · simp at hx ⊢; omega
        · rw [h2]; simp
        · rw [h2]; simp; omega
      obtain ⟨h', s', g1, g2⟩ := rooted_while ls pos hp ev F l.1 (s + 1) (by omega) (by omega)
      refine ⟨h', s', g1, ?_⟩
      have e1 : bInD [.dicG (kvL ls)] (.int h) (.ref 0) = some (.bl true) := by simp [bInD, bIn, dicAt, isKeyK, kvL, dget_int, h3, toB]
      have e2 : bIx [.dicG (kvL ls)] (.ref 0) (.int h) = some (.int l.1) := by simp [bIx, dicAt, isKeyK, kvL, dget_int, h3]
      have e3 : s ≤ (ls.length : Int) := by omega
      simp only [rEnv] at g2 ⊢
      simp [e1, e2, e3]
      exact g2
theorem rooted_for (ls : List La) (pos : Int → Nat) (hp : ∀ l ∈ ls, pos l.1 < pos l.2.2.2) (hl : ls.length ≤ 5) : ∀ (f i : Nat) (env : Env), (∃ ev h s, env = [some (.tup (ls.map dL)), some (.ref 0), ev, none, h, s]) → i + f = ls.length + 1 → i ≤ ls.length →
    ∃ ev h s, goForS (srcK 0) (.nm 2) (sSeq (sPar [4, 5] (aCons (eVar 2) (aCons (eC (.int 0)) aNil)))
    (sSeq (sWhile 1000 (G.tAnd (tV (eBin bInD (eVar 4) (eVar 1))) (tV (eBin bLe (eVar 5) (eBuilt fLen (aCons (eVar 0) aNil))))) (sPar [4, 5] (aCons (eBin bIx (eVar 1) (eVar 4)) (aCons (eBin bAdd (eVar 5) (eC (.int 1))) aNil))))
    (sIf (tV (eBin bInD (eVar 4) (eVar 1))) (sRet (eC (.bl false))) sNil))) f i env [.dicG (kvL ls)] = .nx [some (.tup (ls.map dL)), some (.ref 0), ev, none, h, s] [.dicG (kvL ls)]
  | 0, i, env, _, hi, hj => by omega
  | f + 1, i, env, ⟨ev, h, s, he⟩, hi, hj => by
    subst he
    unfold goForS
    by_cases hx : i < ls.length
    · have e0 : srcK 0 i [.dicG (kvL ls)] = some (some (.int ls[i].2.2.2)) := by
        simp [srcK, kvL, pk, hx]
      have cl : ∀ h, ls.countP (fun l => decide (pos l.2.2.2 ≤ pos h)) ≤ ls.length := fun h => List.countP_le_length
      obtain ⟨h', s', g1, g2⟩ := rooted_while ls pos hp (.int ls[i].2.2.2) 1000 ls[i].2.2.2 0 (by have := cl ls[i].2.2.2; omega) (by have := cl ls[i].2.2.2; omega)
      have e2 : bInD [.dicG (kvL ls)] (.int h') (.ref 0) = some (.bl false) := by simp [bInD, bIn, dicAt, isKeyK, kvL, dget_int, g1, toB]
      simp only [rEnv] at g2
      simp only [e0]
      simp [sWhile, g2, e2]
      exact rooted_for ls pos hp hl f (i + 1) _ ⟨_, _, _, rfl⟩ (by omega) (by omega)
    · have e0 : srcK 0 i [.dicG (kvL ls)] = some none := by
        simp [srcK, kvL, pk]; omega
      simp only [e0]
      exact ⟨ev, h, s, rfl⟩
theorem are_rooted_w (n : Nt) (w : WN n) (S : Store) : fm_are_rooted [.tup (n.ls.map dL)] S = .ok (.bl true) S := by
  obtain ⟨pos, hp⟩ := w.rk
  refine fnP_ok rfl (by simp) (S1 := [.dicK (kvL n.ls)]) ?_ rfl
  have e1 : goDc [3] (.nm 3) G.tYes (eBin bIx (eVar 3) (eC (.int 3))) (eBin bIx (eVar 3) (eC (.int 0))) 0 [some (.tup (n.ls.map dL)), none, none, none, none, none] (n.ls.map dL) [.dicK []] = .ok (.ref 0) [.dicK (kvL n.ls)] := by
    rw [goDc_int (acc := []) dL (fun l => l.2.2.2) (fun l => .int l.1) n.ls [.dicK []] (fun x hx => ⟨_, by simp [wipeE]; rfl, fun S => ?_⟩) rfl w.nd (fun _ _ _ h => nomatch h) (by have := w.ll; simp; omega)]
    · simp [kvL, pk]
    · simp [dL]
  obtain ⟨ev, h, s, e2⟩ := rooted_for n.ls pos hp w.ll (n.ls.length + 1) 0 [some (.tup (n.ls.map dL)), some (.ref 0), none, none, none, none] ⟨none, none, none, rfl⟩ (by omega) (by omega)
  have e3 : (kvL n.ls).length = n.ls.length := by simp [kvL, pk]
  have e4 : fLen [.dicK (kvL n.ls)] [.ref 0] = some (.int n.ls.length) := by simp [fLen, rd, prsOf, e3]
  simp [m_are_rooted, envOf, eDc, e1, e4, sForK, e3, e2, O.unl, unlk]
theorem are_lasts_w (n : Nt) (w : WN n) (S : Store) : fm_are_lasts [.int n.many, .tup (n.ls.map dL)] S = .ok (.bl true) S := by
  refine fnP_ok rfl (by simp) (S1 := []) ?_ rfl
  have h0 := is_sized_t (n.ls.map dL) (by simp) 0 5 []
  rw [List.length_map, show inR 0 5 (n.ls.length : Int) = true by have := w.ll; rw [inR_iff]; omega] at h0
  have e1 : goLc [2] (.nm 2) G.tYes (eCall fm_is_last (aCons (eVar 0) (aCons (eVar 2) aNil))) [some (.int n.many), some (.tup (n.ls.map dL)), none] (n.ls.map dL) [] [] = .ok (.lst (n.ls.map fun x => .bl (okL n.many x))) [] := by
    refine goLc_all dL _ n.ls (fun x hx => ⟨_, by simp [wipeE]; rfl, ?_⟩) (by have := w.ll; omega)
    simp [is_last_l]
  have e2 := is_rising_of dL (fun x y => lexI (lL x) (lL y)) (fun _ z => nomatch z) (by simp) (fun S x y => by rw [dL_eq, dL_eq, dLt_tI]; rfl) n.ls (by have := w.ll; omega) []
  rw [w.lr] at e2
  simp [m_are_lasts, envOf, h0, e1, w.lo, e2, are_rooted_w n w]
theorem is_net_w (n : Nt) (w : WN n) (S : Store) : fm_is_net [dN n] S = .ok (.bl true) S := by
  refine fnP_ok rfl (by simp) (S1 := []) ?_ rfl
  have h0 := is_sized_t [.int n.many, .tup (n.bs.map dB), .tup (n.ls.map dL)] (by simp) 3 3 []
  rw [show inR 3 3 (([D.int n.many, .tup (n.bs.map dB), .tup (n.ls.map dL)].length : Nat) : Int) = true from rfl] at h0
  simp [m_is_net, envOf, dN, h0, is_within_i, w.many, are_bounds_b n w, are_lasts_w n w]
theorem check_net_w (n : Nt) (w : WN n) (S : Store) : fm_check_net [dN n] S = .ok .non S := by
  refine fnP_ok rfl (by simp) (S1 := []) ?_ rfl
  simp [m_check_net, envOf, is_net_w n w]
end K97
end

section
set_option Elab.async false
set_option linter.all false
set_option maxRecDepth 100000
set_option maxHeartbeats 4000000
/-! P4: ends, ours, times, lots. By an AI agent. -/
namespace G
/-! ### typed -/
def srtI (xs : List Int) : List Int := sortG (fun x y => decide (x < y)) xs
def srtL (xs : List (List Int)) : List (List Int) := sortG lexI xs
def endsL (n : Nt) : List Int := srtI (n.ls.map fun l => l.2.2.2)
def rgI (lo : Int) (k : Nat) : List Int := (List.range k).map fun (i : Nat) => lo + (i : Int)
def rgIJ (i j : Int) : List Int := rgI i (j - i).toNat
def oursL (n : Nt) : List Int := (rgIJ 1 n.many).filter fun e => !decide (e ∈ endsL n)
def tAt (ts : List (Option Int)) (e : Int) : Option Int := (ts[e.toNat]?).getD none
def wc (ts : List (Option Int)) (lot : List Int) (m : Int) : List (Option Int) := ts.zipIdx.map fun p => if (p.2 : Int) ∈ lot then some m else p.1
def leftL (n : Nt) (ts : List (Option Int)) : List Int := (oursL n).filter fun e => (tAt ts e).isNone
/-! ### sorting -/
theorem insG_mp {α : Type} (enc : α → D) (lt : α → α → Bool) (h : ∀ x y, ltD (enc x) (enc y) = lt x y) (x : α) : ∀ xs : List α, insG ltD (enc x) (xs.map enc) = (insG lt x xs).map enc
  | [] => rfl
  | y :: r => by
    simp only [List.map_cons, insG, h]
    cases lt x y with
    | true => rfl
    | false => simp only [Bool.false_eq_true, if_false, List.map_cons, insG_mp enc lt h x r]
theorem sortG_mp {α : Type} (enc : α → D) (lt : α → α → Bool) (h : ∀ x y, ltD (enc x) (enc y) = lt x y) (xs : List α) : sortG ltD (xs.map enc) = (sortG lt xs).map enc := by
  unfold sortG
  have : ∀ (xs acc : List α), List.foldl (fun acc x => insG ltD x acc) (acc.map enc) (xs.map enc) = (List.foldl (fun acc x => insG lt x acc) acc xs).map enc := by
    intro xs
    induction xs with
    | nil => intro acc; rfl
    | cons x r ih => intro acc; simp only [List.map_cons, List.foldl_cons, insG_mp enc lt h]; exact ih _
  exact this xs []
theorem insG_len {α : Type} (lt : α → α → Bool) (x : α) : ∀ xs : List α, (insG lt x xs).length = xs.length + 1
  | [] => rfl
  | y :: r => by
    unfold insG
    split
    · rfl
    · simp [insG_len lt x r]
theorem insG_perm {α : Type} (lt : α → α → Bool) (x : α) : ∀ xs : List α, (insG lt x xs).Perm (x :: xs)
  | [] => List.Perm.refl _
  | y :: r => by
    unfold insG
    split
    · exact List.Perm.refl _
    · exact ((insG_perm lt x r).cons y).trans (List.Perm.swap x y r)
theorem sortG_perm {α : Type} (lt : α → α → Bool) (xs : List α) : (sortG lt xs).Perm xs := by
  unfold sortG
  have : ∀ (xs acc : List α), (List.foldl (fun acc x => insG lt x acc) acc xs).Perm (acc ++ xs) := by
    intro xs
    induction xs with
    | nil => intro acc; simp
    | cons x r ih =>
      intro acc
      refine (ih _).trans ?_
      exact ((insG_perm lt x acc).append_right r).trans (List.perm_middle.symm)
  exact this xs []
theorem sortG_len {α : Type} (lt : α → α → Bool) (xs : List α) : (sortG lt xs).length = xs.length := (sortG_perm lt xs).length_eq
theorem mem_srtI {x : Int} {xs : List Int} : x ∈ srtI xs ↔ x ∈ xs := (sortG_perm _ xs).mem_iff
theorem mem_srtL {x : List Int} {xs : List (List Int)} : x ∈ srtL xs ↔ x ∈ xs := (sortG_perm _ xs).mem_iff
@[simp] theorem all_isI (xs : List Int) : (xs.map D.int).all isI = true := by simp [isI]
theorem ltD_int (x y : Int) : ltD (.int x) (.int y) = decide (x < y) := by
  simp only [ltD, rkD, lexI]
  by_cases h : x = y
  · subst h; simp
  · simp [h]
theorem fSorted_ints (S : Store) (xs : List Int) (h : xs.length ≤ 10000000) : fSorted S [.lst (xs.map D.int)] = some (.lst ((srtI xs).map D.int)) := by
  simp only [fSorted, itemsOf, prsOf, seqOf, rd_lstE, canSort, all_isI, Bool.true_or, Bool.true_and, List.length_map]
  rw [if_pos (by simp [Nat.ble_eq]; exact h), sortG_mp D.int _ ltD_int]
  rfl
theorem fSorted_intsR (S : Store) (n : Nat) (xs : List Int) (hS : S[n]? = some (.lst (xs.map D.int))) (h : xs.length ≤ 10000000) : fSorted S [.ref n] = some (.lst ((srtI xs).map D.int)) := by
  simp only [fSorted, itemsOf, prsOf, seqOf, rd, hS, canSort, all_isI, Bool.true_or, Bool.true_and, List.length_map]
  rw [if_pos (by simp [Nat.ble_eq]; exact h), sortG_mp D.int _ ltD_int]
  rfl
theorem fSorted_tup (S : Store) (xs : List Int) (h : xs.length ≤ 10000000) : fSorted S [dLot xs] = some (.lst ((srtI xs).map D.int)) := by
  simp only [fSorted, itemsOf, prsOf, seqOf, dLot, rd_tupE, canSort, all_isI, Bool.true_or, Bool.true_and, List.length_map]
  rw [if_pos (by simp [Nat.ble_eq]; exact h), sortG_mp D.int _ ltD_int]
  rfl
theorem ltD_lot (x y : List Int) : ltD (dLot x) (dLot y) = lexI x y := by simp [ltD, rkD, dLot]
/-- lots, sorted: the first one empty, or none of them -/
theorem fSorted_lots (S : Store) (xs : List (List Int)) (h : xs.length ≤ 10000000) (hf : xs.head? = some [] ∨ ∀ x ∈ xs, x ≠ []) : fSorted S [.lst (xs.map dLot)] = some (.lst ((srtL xs).map dLot)) := by
  have c : canSort (xs.map dLot) = true := by
    unfold canSort
    have h1 : (xs.map dLot).all isTI = true := by simp [isTI, dLot]
    rw [h1, Bool.true_and]
    rcases hf with hf | hf
    · cases xs with
      | nil => simp
      | cons x r =>
        have : x = [] := by simpa using hf
        subst this
        simp [dLot]
    · have : (xs.map dLot).all noE = true := by
        simp only [List.all_map, List.all_eq_true, Function.comp]
        intro x hx
        have := hf x hx
        cases x with
        | nil => exact absurd rfl this
        | cons a b => rfl
      simp [this]
  simp only [fSorted, itemsOf, prsOf, seqOf, rd_lstE, c, Bool.true_and, List.length_map]
  rw [if_pos (by simp [Nat.ble_eq]; exact h), sortG_mp dLot _ ltD_lot]
  rfl
/-! ### numbers in a row -/
theorem rangeD_rg (lo : Int) (k : Nat) : rangeD lo k = (rgI lo k).map D.int := by simp [rangeD, rgI]
theorem mem_rgI {lo x : Int} {k : Nat} : x ∈ rgI lo k ↔ lo ≤ x ∧ x < lo + k := by
  simp only [rgI, List.mem_map, List.mem_range]
  constructor
  · rintro ⟨i, h, rfl⟩; omega
  · rintro ⟨h1, h2⟩; exact ⟨(x - lo).toNat, by omega, by omega⟩
theorem mem_rgIJ {i j x : Int} : x ∈ rgIJ i j ↔ i ≤ x ∧ x < j := by
  unfold rgIJ
  rw [mem_rgI]; omega
theorem rgIJ_len (i j : Int) : (rgIJ i j).length = (j - i).toNat := by simp [rgIJ, rgI]
theorem rgI_len (lo : Int) (k : Nat) : (rgI lo k).length = k := by simp [rgI]
theorem big_of {i : Int} (h : -1000000 ≤ i) (h2 : i ≤ 1000000) : big i = true := by simp only [big, decide_eq_true_eq]; omega
theorem rg2_i (i j : Int) (S : Store) (h1 : -1000000 ≤ i) (h2 : i ≤ 1000000) (h3 : -1000000 ≤ j) (h4 : j ≤ 1000000) : rg2 (.int i) (.int j) S = .ok ((rgIJ i j).map D.int) S := by
  simp only [rg2, big_of h1 h2, big_of h3 h4, rangeD_rg, rgIJ, Bool.and_self, if_pos rfl]
  rfl
theorem rg1_i (j : Int) (S : Store) (h3 : -1000000 ≤ j) (h4 : j ≤ 1000000) : rg1 (.int j) S = .ok ((rgIJ 0 j).map D.int) S := by
  simp only [rg1, big_of h3 h4, rangeD_rg, rgIJ, if_pos rfl, Int.sub_zero]
  rfl
theorem any_eqv_int (x : Int) (l : List Int) : ((l.map D.int).any fun z => z.eqv (.int x)) = decide (x ∈ l) := by
  rw [Bool.eq_iff_iff]
  simp only [List.any_map, List.any_eq_true, Function.comp, D.eqv, decide_eq_true_eq]
  constructor
  · rintro ⟨y, h, rfl⟩; exact h
  · exact fun h => ⟨x, h, rfl⟩
theorem any_eqv_c (x : Int) (l : List Int) : (l.any ((fun z => z.eqv (.int x)) ∘ D.int)) = decide (x ∈ l) := by
  rw [← any_eqv_int, List.any_map]
@[simp] theorem pl_int (k : Nat) (i : Int) : D.pl k (.int i) = true := by cases k <;> rfl
@[simp] theorem pl_non (k : Nat) : D.pl k .non = true := by cases k <;> rfl
@[simp] theorem pl_bl (k : Nat) (b : Bool) : D.pl k (.bl b) = true := by cases k <;> rfl
@[simp] theorem pl_dO (k : Nat) (o : Option Int) : D.pl k (dO o) = true := by cases o <;> simp [dO]
theorem bInD_lot (S : Store) (x : Int) (l : List Int) : bInD S (.int x) (dLot l) = some (.bl (decide (x ∈ l))) := by
  simp [bInD, bIn, dicAt, dLot, memD, seqOf, deep, any_eqv_c, toB]
theorem bInD_lst (S : Store) (x : Int) (l : List Int) : bInD S (.int x) (.lst (l.map D.int)) = some (.bl (decide (x ∈ l))) := by
  simp [bInD, bIn, dicAt, memD, seqOf, deep, any_eqv_c, toB]
theorem bInD_ref (S : Store) (n : Nat) (x : Int) (l : List Int) (h : S[n]? = some (.lst (l.map D.int))) : bInD S (.int x) (.ref n) = some (.bl (decide (x ∈ l))) := by
  simp [bInD, bIn, dicAt, memD, seqOf, rd, h, deep, any_eqv_c, toB]
theorem bNotIn_lot (S : Store) (x : Int) (l : List Int) : bNotIn S (.int x) (dLot l) = some (.bl (!decide (x ∈ l))) := by
  simp [bNotIn, bIn, dicAt, dLot, memD, seqOf, deep, any_eqv_c]
theorem bNotIn_lst (S : Store) (x : Int) (l : List Int) : bNotIn S (.int x) (.lst (l.map D.int)) = some (.bl (!decide (x ∈ l))) := by
  simp [bNotIn, bIn, dicAt, memD, seqOf, deep, any_eqv_c]
/-! ### times -/
theorem bIx_ts (S : Store) (ts : List (Option Int)) (e : Int) (h0 : 0 ≤ e) (h1 : e < ts.length) : bIx S (dTs ts) (.int e) = some (dO (tAt ts e)) := by
  obtain ⟨k, rfl⟩ := Int.eq_ofNat_of_zero_le h0
  have hk : k < ts.length := by omega
  simp [dTs, atD_nat, tAt, hk]
theorem bIx_tsR (S : Store) (n : Nat) (ts : List (Option Int)) (hS : S[n]? = some (.lst (ts.map dO))) (e : Int) (h0 : 0 ≤ e) (h1 : e < ts.length) : bIx S (.ref n) (.int e) = some (dO (tAt ts e)) := by
  obtain ⟨k, rfl⟩ := Int.eq_ofNat_of_zero_le h0
  have hk : k < ts.length := by omega
  simp [bIx, dicAt, hS, rd, atD_nat, tAt, hk]
@[simp] theorem uIsN_dO (S : Store) (o : Option Int) : uIsN S (dO o) = some (.bl o.isNone) := by cases o <;> rfl
@[simp] theorem uNotN_dO (S : Store) (o : Option Int) : uNotN S (dO o) = some (.bl o.isSome) := by cases o <;> rfl
@[simp] theorem uIsN_non (S : Store) : uIsN S .non = some (.bl true) := rfl
@[simp] theorem uIsN_int (S : Store) (i : Int) : uIsN S (.int i) = some (.bl false) := rfl
@[simp] theorem uNotN_non (S : Store) : uNotN S .non = some (.bl false) := rfl
@[simp] theorem uNotN_int (S : Store) (i : Int) : uNotN S (.int i) = some (.bl true) := rfl
theorem enumD_map {α : Type} (enc : α → D) : ∀ (xs : List α) (k : Nat), enumD k (xs.map enc) = (xs.zipIdx k).map fun p => D.tup [.int p.2, enc p.1]
  | [], k => rfl
  | x :: r, k => by simp [enumD, enumD_map enc r (k + 1)]
theorem wc_len (ts : List (Option Int)) (lot : List Int) (m : Int) : (wc ts lot m).length = ts.length := by simp [wc]
theorem tAt_wc (ts : List (Option Int)) (lot : List Int) (m e : Int) (h0 : 0 ≤ e) (h1 : e < ts.length) : tAt (wc ts lot m) e = if e ∈ lot then some m else tAt ts e := by
  obtain ⟨k, rfl⟩ := Int.eq_ofNat_of_zero_le h0
  have hk : k < ts.length := by omega
  simp [tAt, wc, hk]
theorem wc_nil (ts : List (Option Int)) (m : Int) : wc ts [] m = ts := by
  simp [wc, List.zipIdx_map_fst]
end G
namespace K97
open G
theorem raw_ends_w (n : Nt) (w : WN n) (S : Store) : fm_raw_ends [dN n] S = .ok (dLot (endsL n)) S := by
  refine fnP_ok rfl (by simp) (S1 := []) ?_ (by simp)
  have e1 : goLc [1] (.nm 1) G.tYes (eBin bIx (eVar 1) (eC (.int 3))) [some (dN n), none] (n.ls.map dL) [] [] = .ok (.lst ((n.ls.map fun l => l.2.2.2).map D.int)) [] := by
    rw [List.map_map]
    refine goLc_all dL _ n.ls (fun x hx => ⟨_, by simp [wipeE]; rfl, ?_⟩) (by have := w.ll; omega)
    simp [dL]
  have e2 := fSorted_ints [] (n.ls.map fun l => l.2.2.2) (by have := w.ll; simp; omega)
  have e0 : bIx [] (dN n) (.int 2) = some (.tup (n.ls.map dL)) := by simp [dN]
  simp only [m_raw_ends, envOf]
  simp [e0, -List.map_map, e1, e2, dLot, endsL]
theorem raw_ours_w (n : Nt) (w : WN n) (S : Store) : fm_raw_ours [dN n] S = .ok (dLot (oursL n)) S := by
  refine fnP_ok rfl (by simp) (S1 := []) ?_ (by simp)
  have hm := inR_iff.mp w.many
  have e1 : goLc [2] (.nm 2) (tV (eBin bNotIn (eVar 2) (eVar 1))) (eVar 2) [some (dN n), some (dLot (endsL n)), none] ((rgIJ 1 n.many).map D.int) [] [] = .ok (.lst ((oursL n).map D.int)) [] := by
    rw [goLc_enc D.int (fun e => !decide (e ∈ endsL n)) D.int (rgIJ 1 n.many) [] (fun x hx => ⟨_, by simp [wipeE]; rfl, ?_, fun _ => ?_⟩) (by simp [rgIJ_len]; omega)]
    · simp [oursL]
    · simp [bNotIn_lot]
    · simp
  have e0 : bIx [] (dN n) (.int 0) = some (.int n.many) := by simp [dN]
  have e2 := rg2_i 1 n.many [] (by omega) (by omega) (by omega) (by omega)
  simp only [m_raw_ours, envOf]
  simp [raw_ends_w n w, e0, e2, e1]
  rfl
end K97
end

section
set_option Elab.async false
set_option linter.all false
set_option maxRecDepth 100000
set_option maxHeartbeats 4000000
/-! P5: times and lots, by the program. By an AI agent. -/
namespace G
def lotsF (xs : List Int) : List (List Int) := xs.foldl (fun F a => F ++ F.map (· ++ [a])) [[]]
/-- the first place -/
def noneL (many : Int) : List (Option Int) := List.replicate (many - 1).toNat none
def ts0 (many : Int) : List (Option Int) := some 0 :: noneL many
@[simp] theorem nrL_dOs (l : List (Option Int)) : nrL (l.map dO) = true := by rw [nrL_all]; simp
@[simp] theorem nrL_dLots (l : List (List Int)) : nrL (l.map dLot) = true := by rw [nrL_all]; simp
theorem ts0_len (many : Int) (h : 1 ≤ many) : ((ts0 many).length : Int) = many := by simp [ts0, noneL]; omega
end G
namespace K97
open G
theorem with_come_w (ts : List (Option Int)) (lot : List Int) (m : Int) (hl : ts.length < 1000000) (S : Store) : fm_with_come [dTs ts, dLot lot, .int m] S = .ok (dTs (wc ts lot m)) S := by
  refine fnP_ok rfl (by simp) (S1 := []) ?_ (by simp)
  have e1 : goLc [3, 4] (.tp [.nm 3, .nm 4]) G.tYes (eIf (tV (eBin bInD (eVar 3) (eVar 1))) (eVar 2) (eVar 4)) [some (dTs ts), some (dLot lot), some (.int m), none, none] ((ts.zipIdx 0).map fun p => D.tup [.int p.2, dO p.1]) [] [] = .ok (.lst ((wc ts lot m).map dO)) [] := by
    unfold wc
    rw [List.map_map]
    refine goLc_all (fun p : Option Int × Nat => D.tup [.int p.2, dO p.1]) _ (ts.zipIdx 0) (fun x hx => ⟨_, by simp [wipeE]; rfl, ?_⟩) (by simp; omega)
    by_cases h : (x.2 : Int) ∈ lot <;> simp [bInD_lot, h]
    rfl
  simp only [m_with_come, envOf]
  have e0 : enumD 0 (ts.map dO) = (ts.zipIdx 0).map fun p => D.tup [.int p.2, dO p.1] := enumD_map dO ts 0
  have e2 : (dTs ts) = .tup (ts.map dO) := rfl
  have e3 : iSeq (eVar 0) [some (dTs ts), some (dLot lot), some (.int m), none, none] [] = .ok (ts.map dO) [] := rfl
  simp [-iSeq_ev, e3, e0, e1]
  rfl
theorem raw_first_place_w (n : Nt) (w : WN n) (h3 : 3 ≤ n.many) (S : Store) : fm_raw_first_place [dN n] S = .ok (dPl 0 (ts0 n.many)) S := by
  refine fnP_ok rfl (by simp) (S1 := []) ?_ (by simp)
  have hm := inR_iff.mp w.many
  have e0 : bIx [] (dN n) (.int 0) = some (.int n.many) := by simp [dN]
  have e1 : bMul [] (.tup [.non]) (.int (n.many - 1)) = some (.tup ((noneL n.many).map dO)) := by
    simp only [bMul, rd_tupE]
    rw [if_pos (by simp; omega)]
    simp [repL, noneL, dO]
  have e2 : bAdd [] (.tup [.int 0]) (.tup ((noneL n.many).map dO)) = some (.tup ((ts0 n.many).map dO)) := by
    simp only [bAdd, rd_tupE]
    rw [if_pos (by simp [noneL]; omega)]
    rfl
  simp only [m_raw_first_place, envOf]
  simp only [List.map_cons, List.map_nil, List.length_cons, List.length_nil, List.cons_append, List.nil_append]
  simp [e0, e1, e2]
  rfl
theorem raw_left_w (n : Nt) (w : WN n) (ts : List (Option Int)) (hl : (ts.length : Int) = n.many) (S : Store) : fm_raw_left [dN n, dTs ts] S = .ok (.lst ((leftL n ts).map D.int)) S := by
  refine fnP_ok rfl (by simp) (S1 := []) ?_ (by simp)
  have hm := inR_iff.mp w.many
  have hlen : (oursL n).length ≤ 100 := by
    have := List.length_filter_le (fun e => !decide (e ∈ endsL n)) (rgIJ 1 n.many)
    rw [rgIJ_len] at this
    simp only [oursL]
    omega
  have e1 : goLc [2] (.nm 2) (tV (eUn uIsN (eBin bIx (eVar 1) (eVar 2)))) (eVar 2) [some (dN n), some (dTs ts), none] ((oursL n).map D.int) [] [] = .ok (.lst ((leftL n ts).map D.int)) [] := by
    rw [goLc_enc D.int (fun e => (tAt ts e).isNone) D.int (oursL n) [] (fun x hx => ⟨_, by simp [wipeE]; rfl, ?_, fun _ => ?_⟩) (by simp; omega)]
    · rfl
    · have hx := mem_rgIJ.mp (List.mem_filter.mp hx).1
      have h := bIx_ts [] ts x (by omega) (by omega)
      simp [h]
    · simp
  simp only [m_raw_left, envOf]
  have e2 : iSeq (eCall fm_raw_ours (aCons (eVar 0) aNil)) [some (dN n), some (dTs ts), none] [] = .ok ((oursL n).map D.int) [] := by simp [raw_ours_w n w, dLot]
  simp [-iSeq_ev, e2, e1]
end K97
end

section
set_option Elab.async false
set_option linter.all false
set_option maxRecDepth 100000
set_option maxHeartbeats 4000000
/-! P6: lots of ends. By an AI agent. -/
namespace G
theorem goFor_fold {α σ : Type} {p : Pat} {body : SM} (enc : α → D) (f : σ → α → σ) (P : Nat → σ → Env → Store → Prop) : ∀ (xs : List α) (i : Nat) (s : σ) (env : Env) (S : Store), P i s env S →
    (∀ j s env S x, x ∈ xs → i ≤ j → j < i + xs.length → P j s env S → ∃ e e1 S1, bindP p (enc x) env = some e ∧ body e S = .nx e1 S1 ∧ P (j + 1) (f s x) e1 S1) →
    ∃ env' S', goFor p body (xs.map enc) env S = .nx env' S' ∧ P (i + xs.length) (xs.foldl f s) env' S'
  | [], i, s, env, S, h, _ => ⟨env, S, rfl, h⟩
  | x :: xs, i, s, env, S, h, hs => by
    obtain ⟨e, e1, S1, h1, h2, h3⟩ := hs i s env S x List.mem_cons_self (Nat.le_refl _) (by simp) h
    obtain ⟨env', S', g1, g2⟩ := goFor_fold enc f P xs (i + 1) (f s x) e1 S1 h3 (fun j s env S y hy h1 h2 => hs j s env S y (List.mem_cons_of_mem _ hy) (by omega) (by simp; omega))
    refine ⟨env', S', by simp only [List.map_cons, goFor, h1, h2]; exact g1, ?_⟩
    rw [show i + (x :: xs).length = i + 1 + xs.length by simp; omega]
    exact g2
theorem bAdd_lots (S : Store) (F G : List (List Int)) (h : F.length + G.length ≤ 1000000) : bAdd S (.lst (F.map dLot)) (.lst (G.map dLot)) = some (.lst ((F ++ G).map dLot)) := by
  simp only [bAdd, rd_lstE]
  rw [if_pos (by simp; omega)]
  simp
theorem bAdd_lot (S : Store) (x y : List Int) (h : x.length + y.length ≤ 1000000) : bAdd S (dLot x) (dLot y) = some (dLot (x ++ y)) := by
  simp only [bAdd, dLot, rd_tupE]
  rw [if_pos (by simp; omega)]
  simp
theorem srtL_head (xs : List (List Int)) (h : xs.head? = some []) : (srtL xs).head? = some [] := by
  cases xs with
  | nil => cases h
  | cons x r =>
    have : x = [] := by simpa using h
    subst this
    have : ∀ (r acc : List (List Int)), acc.head? = some [] → (List.foldl (fun acc x => insG lexI x acc) acc r).head? = some [] := by
      intro r
      induction r with
      | nil => intro acc h; exact h
      | cons y q ih =>
        intro acc h
        refine ih _ ?_
        cases acc with
        | nil => cases h
        | cons z u =>
          have : z = [] := by simpa using h
          subst this
          simp [insG, lexI]
    exact this r [[]] rfl
/-- lots made one by one -/
def lotsG (F : List (List Int)) (xs : List Int) : List (List Int) := xs.foldl (fun F a => F ++ F.map (· ++ [a])) F
theorem lotsG_head (xs : List Int) : ∀ F : List (List Int), F.head? = some [] → (lotsG F xs).head? = some [] := by
  induction xs with
  | nil => intro F h; exact h
  | cons a r ih =>
    intro F h
    refine ih _ ?_
    cases F with
    | nil => cases h
    | cons x r => simpa using h
theorem lotsG_len (xs : List Int) : ∀ F : List (List Int), (lotsG F xs).length = F.length * 2 ^ xs.length := by
  induction xs with
  | nil => intro F; simp [lotsG]
  | cons a r ih =>
    intro F
    show (lotsG (F ++ F.map (· ++ [a])) r).length = _
    rw [ih]
    simp [Nat.pow_succ]
    rw [← Nat.two_mul, Nat.mul_comm 2, Nat.mul_assoc, Nat.mul_comm 2]
theorem lotsG_mem_len (xs : List Int) : ∀ (F : List (List Int)) (k : Nat), (∀ l ∈ F, l.length ≤ k) → ∀ l ∈ lotsG F xs, l.length ≤ k + xs.length := by
  induction xs with
  | nil => intro F k h l hl; have := h l hl; simp; omega
  | cons a r ih =>
    intro F k h l hl
    have := ih (F ++ F.map (· ++ [a])) (k + 1) (fun m hm => by
      rcases List.mem_append.mp hm with q | q
      · have := h m q; omega
      · obtain ⟨y, hy, rfl⟩ := List.mem_map.mp q
        have := h y hy
        simp; omega) l hl
    simp; omega
theorem pow_small {k : Nat} (h : k ≤ 10) : 2 ^ k ≤ 1024 := Nat.pow_le_pow_right (by decide) h
end G
namespace K97
open G
theorem lots_from_w (xs : List Int) (hx : xs.length ≤ 10) (S : Store) : fm_lots_from [.lst (xs.map D.int)] S = .ok (.lst ((srtL (lotsG [[]] xs)).map dLot)) S := by
  refine fnP_ok rfl (by simp) (S1 := []) ?_ (by simp)
  have hb := pow_small hx
  have loop : ∀ (ys : List Int) (F : List (List Int)) (o : Option D), F.length * 2 ^ ys.length ≤ 1024 → (∀ l ∈ F, l.length + ys.length ≤ 100) →
      ∃ o', goFor (.nm 2) (sSet (.nm 1) (eBin bAdd (eVar 1) (eLc [3] (.nm 3) (iSeq (eVar 1)) G.tYes (eBin bAdd (eVar 3) (eTupZ (aCons (eVar 2) aNil)))))) (ys.map D.int) [some (.lst (xs.map D.int)), some (.lst (F.map dLot)), o, none] [] = .nx [some (.lst (xs.map D.int)), some (.lst ((lotsG F ys).map dLot)), o', none] [] := by
    intro ys
    induction ys with
    | nil => intro F o _ _; exact ⟨o, rfl⟩
    | cons a r ih =>
      intro F o hF hL
      have hF2 : F.length * (2 ^ r.length * 2) ≤ 1024 := by rw [← Nat.pow_succ]; exact hF
      have hp : 0 < 2 ^ r.length := Nat.pow_pos (by decide)
      have hF3 : F.length * 2 ≤ 1024 := Nat.le_trans (Nat.mul_le_mul_left _ (by omega)) hF2
      have e1 : goLc [3] (.nm 3) G.tYes (eBin bAdd (eVar 3) (eTupZ (aCons (eVar 2) aNil))) [some (.lst (xs.map D.int)), some (.lst (F.map dLot)), some (.int a), none] (F.map dLot) [] [] = .ok (.lst ((F.map (· ++ [a])).map dLot)) [] := by
        rw [List.map_map]
        refine goLc_all dLot _ F (fun x hx => ⟨_, by simp [wipeE]; rfl, ?_⟩) (by omega)
        have h := bAdd_lot [] x [a] (by have := hL x hx; simp at this ⊢; omega)
        have e : (D.tup [.int a]) = dLot [a] := rfl
        simp [e, h]
      have e2 := bAdd_lots [] F (F.map (· ++ [a])) (by simp; omega)
      obtain ⟨o', g⟩ := ih (F ++ F.map (· ++ [a])) (some (.int a)) (by simp; rw [← Nat.two_mul, Nat.mul_comm 2, Nat.mul_assoc, Nat.mul_comm 2]; exact hF2) (fun l hl => by
        rcases List.mem_append.mp hl with q | q
        · have := hL l q; simp at this; omega
        · obtain ⟨y, hy, rfl⟩ := List.mem_map.mp q
          have := hL y hy
          simp at this ⊢; omega)
      refine ⟨o', ?_⟩
      simp only [List.map_cons, goFor, bindP_nm]
      simp [-List.map_append, -List.map_map, e1, e2]
      exact g
  obtain ⟨o', g⟩ := loop xs [[]] none (by simpa using hb) (by simp; omega)
  have e3 := fSorted_lots [] (lotsG [[]] xs) (by rw [lotsG_len]; simp; omega) (.inl (lotsG_head xs [[]] rfl))
  change goFor _ _ _ [some (.lst (xs.map D.int)), some (.lst [.tup []]), none, none] [] = _ at g
  simp only [m_lots_from, envOf]
  simp [g, e3]
end K97
namespace G
/-! ### what ends may, must come at a minute -/
def canE (ts : List (Option Int)) (m : Int) (l : La) : Bool := (tAt ts l.2.2.2).isNone && match tAt ts l.1 with
  | none => false
  | some t => inR l.2.1 l.2.2.1 (m - t)
def mustE (ts : List (Option Int)) (m : Int) (l : La) : Bool := match tAt ts l.1 with
  | none => false
  | some t => decide (m - t = l.2.2.1)
def mayL (n : Nt) (ts : List (Option Int)) (m : Int) : List Int := (n.ls.filter fun l => canE ts m l && !mustE ts m l).map fun l => l.2.2.2
def mustL (n : Nt) (ts : List (Option Int)) (m : Int) : List Int := (n.ls.filter fun l => canE ts m l && mustE ts m l).map fun l => l.2.2.2
def stE (ts : List (Option Int)) (m : Int) (s : List Int × List Int) (l : La) : List Int × List Int := if canE ts m l then (if mustE ts m l then (s.1, s.2 ++ [l.2.2.2]) else (s.1 ++ [l.2.2.2], s.2)) else s
theorem stE_fold (ts : List (Option Int)) (m : Int) : ∀ (xs : List La) (a b : List Int), xs.foldl (stE ts m) (a, b) = (a ++ (xs.filter fun l => canE ts m l && !mustE ts m l).map fun l => l.2.2.2, b ++ (xs.filter fun l => canE ts m l && mustE ts m l).map fun l => l.2.2.2)
  | [], a, b => by simp
  | l :: r, a, b => by
    simp only [List.foldl_cons, stE]
    cases h1 : canE ts m l with
    | false => simp [stE_fold ts m r, h1]
    | true =>
      cases h2 : mustE ts m l with
      | false => simp [stE_fold ts m r, h1, h2]
      | true => simp [stE_fold ts m r, h1, h2]
def endsAt (n : Nt) (ts : List (Option Int)) (m : Int) : List (List Int) := srtL ((srtL (lotsG [[]] (srtI (mayL n ts m)))).map fun lot => srtI (lot ++ mustL n ts m))
theorem bAdd_lstR (S : Store) (k : Nat) (x y : List Int) (hS : S[k]? = some (.lst (y.map D.int))) (h : x.length + y.length ≤ 1000000) : bAdd S (.lst (x.map D.int)) (.ref k) = some (.lst ((x ++ y).map D.int)) := by
  have : rd S (.ref k) = .lst (y.map D.int) := by simp [rd, hS]
  simp only [bAdd, rd_lstE, this]
  rw [if_pos (by simp; omega)]
  simp
theorem fList_lot (S : Store) (x : List Int) : fList S [dLot x] = some (.lst (x.map D.int)) := rfl
theorem eAppend_ev (a e : EM) (env : Env) (S : Store) : eAppend a e env S = (a env S).bnd fun x S1 => match isL S1 x with
  | true => (e env S1).bnd fun v S2 => match pushL S2 x [v] with
    | some S3 => .ok .non S3
    | none => .stuck
  | false => .stuck := rfl
theorem isL_ref {S : Store} {k : Nat} {xs : List D} (h : S[k]? = some (.lst xs)) : isL S (.ref k) = true := by simp [isL, h]
theorem pushL_ref {S : Store} {k : Nat} {xs : List D} (ys : List D) (h : S[k]? = some (.lst xs)) (hl : xs.length + ys.length < 10000000) : pushL S (.ref k) ys = some (S.set k (.lst (xs ++ ys))) := by
  simp only [pushL, h]
  rw [if_pos (by simp [Nat.blt_eq]; exact hl)]
/-- the events of lasts are events -/
theorem WN.ev {n : Nt} (w : WN n) {l : La} (h : l ∈ n.ls) : 0 ≤ l.1 ∧ l.1 < n.many ∧ 1 ≤ l.2.2.2 ∧ l.2.2.2 < n.many ∧ 1 ≤ l.2.1 ∧ l.2.1 ≤ l.2.2.1 ∧ l.2.2.1 ≤ 1000 ∧ l.1 ≠ l.2.2.2 := by
  have := List.all_eq_true.mp w.lo l h
  simp only [okL, Bool.and_eq_true, inR_iff, decide_eq_true_eq, Bool.not_eq_true', decide_eq_false_iff_not] at this
  omega
end G
namespace K97
open G
theorem ends_at_w (n : Nt) (w : WN n) (ts : List (Option Int)) (hl : (ts.length : Int) = n.many) (m : Int) (S : Store) : fm_ends_at [dN n, dTs ts, .int m] S = .ok (.lst ((endsAt n ts m).map dLot)) S := by
  refine fnP_ok rfl (by simp) (S1 := [.lst ((mayL n ts m).map D.int), .lst ((mustL n ts m).map D.int)]) ?_ (by simp)
  let P : Nat → List Int × List Int → Env → Store → Prop := fun i s env S => (∃ o1 o2 o3 o4, env = [some (dN n), some (dTs ts), some (.int m), some (.ref 0), some (.ref 1), o1, o2, o3, o4, none]) ∧ S = [.lst (s.1.map D.int), .lst (s.2.map D.int)] ∧ s.1.length ≤ i ∧ s.2.length ≤ i
  obtain ⟨env', S', g1, ⟨o1, o2, o3, o4, g2⟩, g3, g4, g5⟩ := goFor_fold (p := .tp [.nm 5, .nm 6, .nm 7, .nm 8]) (body := sIf (G.tAnd (tV (eUn uIsN (eBin bIx (eVar 1) (eVar 8)))) (G.tAnd (tV (eUn uNotN (eBin bIx (eVar 1) (eVar 5)))) (tV (eChain bLe bLe (eVar 6) (eBin bSub (eVar 2) (eBin bIx (eVar 1) (eVar 5))) (eVar 7))))) (sIf (tV (eBin bEq (eBin bSub (eVar 2) (eBin bIx (eVar 1) (eVar 5))) (eVar 7))) (sExpr (eAppend (eVar 4) (eVar 8))) (sExpr (eAppend (eVar 3) (eVar 8)))) sNil)
    dL (stE ts m) P n.ls 0 ([], []) [some (dN n), some (dTs ts), some (.int m), some (.ref 0), some (.ref 1), none, none, none, none, none] [.lst [], .lst []] ⟨⟨none, none, none, none, rfl⟩, rfl, Nat.le_refl _, Nat.le_refl _⟩ (by
      rintro j ⟨a, b⟩ env S l hln hj1 hj2 ⟨⟨o1, o2, o3, o4, rfl⟩, rfl, ha, hb⟩
      have hw := w.ll
      obtain ⟨e1, e2, e3, e4, _⟩ := w.ev hln
      have tc : ∀ S, bIx S (dTs ts) (.int l.2.2.2) = some (dO (tAt ts l.2.2.2)) := fun S => bIx_ts S ts l.2.2.2 (by omega) (by omega)
      have ta : ∀ S, bIx S (dTs ts) (.int l.1) = some (dO (tAt ts l.1)) := fun S => bIx_ts S ts l.1 (by omega) (by omega)
      refine ⟨_, [some (dN n), some (dTs ts), some (.int m), some (.ref 0), some (.ref 1), some (.int l.1), some (.int l.2.1), some (.int l.2.2.1), some (.int l.2.2.2), none], [.lst ((stE ts m (a, b) l).1.map D.int), .lst ((stE ts m (a, b) l).2.map D.int)], by simp [dL]; rfl, ?_, ⟨_, _, _, _, rfl⟩, rfl, ?_⟩
      · cases h1 : tAt ts l.2.2.2 with
        | some t1 => simp [tc, h1, stE, canE]
        | none =>
          cases h2 : tAt ts l.1 with
          | none => simp [tc, ta, h1, h2, stE, canE]
          | some t =>
            by_cases h3 : l.2.1 ≤ m - t
            · by_cases h4 : m - t ≤ l.2.2.1
              · by_cases h5 : m - t = l.2.2.1
                · have hp := pushL_ref (S := [.lst (a.map D.int), .lst (b.map D.int)]) (k := 1) [.int l.2.2.2] rfl (by simp; simp at hb; omega)
                  have h6 : l.2.1 ≤ l.2.2.1 := by omega
                  simp [tc, ta, h1, h2, dO, h6, h5, stE, canE, mustE, inR, eAppend_ev, isL, hp]
                · have hp := pushL_ref (S := [.lst (a.map D.int), .lst (b.map D.int)]) (k := 0) [.int l.2.2.2] rfl (by simp; simp at ha; omega)
                  simp [tc, ta, h1, h2, dO, h3, h4, h5, stE, canE, mustE, inR, eAppend_ev, isL, hp]
              · simp [tc, ta, h1, h2, dO, h3, h4, stE, canE, mustE, inR]
            · simp [tc, ta, h1, h2, dO, h3, stE, canE, mustE, inR]
      · simp only [stE]
        simp only at ha hb
        split
        · split <;> simp <;> omega
        · simp; omega)
  rw [stE_fold] at g3
  simp only [List.nil_append] at g3
  have g3' : S' = [.lst ((mayL n ts m).map D.int), .lst ((mustL n ts m).map D.int)] := g3
  subst g3'
  have hmay : (mayL n ts m).length ≤ 5 := by
    have := List.length_filter_le (fun l => canE ts m l && !mustE ts m l) n.ls
    have := w.ll
    simp only [mayL, List.length_map]; omega
  have hmust : (mustL n ts m).length ≤ 5 := by
    have := List.length_filter_le (fun l => canE ts m l && mustE ts m l) n.ls
    have := w.ll
    simp only [mustL, List.length_map]; omega
  have q1 := fSorted_intsR [.lst ((mayL n ts m).map D.int), .lst ((mustL n ts m).map D.int)] 0 (mayL n ts m) rfl (by omega)
  have q2 := lots_from_w (srtI (mayL n ts m)) (by rw [srtI, sortG_len]; omega) [.lst ((mayL n ts m).map D.int), .lst ((mustL n ts m).map D.int)]
  have q3 : ∀ lot ∈ srtL (lotsG [[]] (srtI (mayL n ts m))), lot.length ≤ 5 := fun lot h => by
    have := lotsG_mem_len (srtI (mayL n ts m)) [[]] 0 (by simp) lot (mem_srtL.mp h)
    rw [srtI, sortG_len] at this; omega
  have q4 : (srtL (lotsG [[]] (srtI (mayL n ts m)))).length ≤ 1024 := by
    rw [srtL, sortG_len, lotsG_len]
    have := pow_small (k := (srtI (mayL n ts m)).length) (by rw [srtI, sortG_len]; omega)
    simpa using this
  have q5 : goLc [9] (.nm 9) G.tYes (eBuilt fTuple (aCons (eBuilt fSorted (aCons (eBin bAdd (eBuilt fList (aCons (eVar 9) aNil)) (eVar 4)) aNil)) aNil)) [some (dN n), some (dTs ts), some (.int m), some (.ref 0), some (.ref 1), o1, o2, o3, o4, none] ((srtL (lotsG [[]] (srtI (mayL n ts m)))).map dLot) [] [.lst ((mayL n ts m).map D.int), .lst ((mustL n ts m).map D.int)] =
      .ok (.lst (((srtL (lotsG [[]] (srtI (mayL n ts m)))).map fun lot => srtI (lot ++ mustL n ts m)).map dLot)) [.lst ((mayL n ts m).map D.int), .lst ((mustL n ts m).map D.int)] := by
    rw [List.map_map]
    refine goLc_all dLot _ _ (fun x hx => ⟨_, by simp [wipeE]; rfl, ?_⟩) (by omega)
    have h1 := bAdd_lstR [.lst ((mayL n ts m).map D.int), .lst ((mustL n ts m).map D.int)] 1 x (mustL n ts m) rfl (by have := q3 x hx; omega)
    have h2 := fSorted_ints [.lst ((mayL n ts m).map D.int), .lst ((mustL n ts m).map D.int)] (x ++ mustL n ts m) (by have := q3 x hx; simp; omega)
    simp [-List.map_append, fList_lot, h1, h2]
    rfl
  have q6 := fSorted_lots [.lst ((mayL n ts m).map D.int), .lst ((mustL n ts m).map D.int)] ((srtL (lotsG [[]] (srtI (mayL n ts m)))).map fun lot => srtI (lot ++ mustL n ts m)) (by simp; omega) (by
    cases hz : mustL n ts m with
    | cons a r =>
      refine .inr fun x hx => ?_
      obtain ⟨lot, _, rfl⟩ := List.mem_map.mp hx
      intro z
      have := congrArg List.length z
      rw [srtI, sortG_len] at this
      simp at this
    | nil =>
      refine .inl ?_
      rw [List.head?_map, srtL_head _ (lotsG_head _ _ rfl)]
      rfl)
  simp only [m_ends_at, envOf]
  have g0 : iSeq (eBin bIx (eVar 0) (eC (.int 2))) [some (dN n), some (dTs ts), some (.int m), some (.ref 0), some (.ref 1), none, none, none, none, none] [.lst [], .lst []] = .ok (n.ls.map dL) [.lst [], .lst []] := by simp [dN]
  subst g2
  simp [-iSeq_ev, g0, g1]
  simp [q1, q2, -List.map_map, q5, q6]
  rfl
end K97
end

section
set_option Elab.async false
set_option linter.all false
set_option maxRecDepth 100000
set_option maxHeartbeats 4000000
/-! P7: what comes next, by the program and by the law. By an AI agent. -/
namespace G
/-! ### sorting knows no order of its input -/
structure Tot {α : Type} (lt : α → α → Bool) : Prop where
  trans : ∀ x y z, lt x y = true → lt y z = true → lt x z = true
  asym : ∀ x y, lt x y = true → lt y x = false
  tri : ∀ x y, lt x y = false → lt y x = false → x = y
theorem insG_comm {α : Type} {lt : α → α → Bool} (t : Tot lt) (x y : α) : ∀ l : List α, insG lt x (insG lt y l) = insG lt y (insG lt x l)
  | [] => by
    simp only [insG]
    cases h : lt x y with
    | true => rw [t.asym x y h]; simp
    | false =>
      cases h2 : lt y x with
      | true => simp
      | false => rw [t.tri x y h h2]
  | z :: r => by
    cases h1 : lt x z with
    | true =>
      cases h2 : lt y z with
      | true =>
        cases h : lt x y with
        | true => simp [insG, h1, h2, h, t.asym x y h]
        | false =>
          cases h3 : lt y x with
          | true => simp [insG, h1, h2, h, h3]
          | false => rw [t.tri x y h h3]
      | false =>
        have h3 : lt y x = false := by
          cases q : lt y x with
          | false => rfl
          | true => rw [t.trans y x z q h1] at h2; cases h2
        simp [insG, h1, h2, h3]
    | false =>
      cases h2 : lt y z with
      | true =>
        have h3 : lt x y = false := by
          cases q : lt x y with
          | false => rfl
          | true => rw [t.trans x y z q h2] at h1; cases h1
        simp [insG, h1, h2, h3]
      | false => simp [insG, h1, h2, insG_comm t x y r]
theorem foldl_perm {α β : Type} (f : β → α → β) (h : ∀ b x y, f (f b x) y = f (f b y) x) {xs ys : List α} (p : xs.Perm ys) : ∀ b, xs.foldl f b = ys.foldl f b := by
  induction p with
  | nil => intro b; rfl
  | cons x _ ih => intro b; exact ih _
  | swap x y l => intro b; simp only [List.foldl_cons, h]
  | trans _ _ ih1 ih2 => intro b; exact (ih1 b).trans (ih2 b)
theorem sortG_of_perm {α : Type} {lt : α → α → Bool} (t : Tot lt) {xs ys : List α} (p : xs.Perm ys) : sortG lt xs = sortG lt ys := foldl_perm _ (fun b x y => insG_comm t y x b) p []
theorem tot_int : Tot (fun x y : Int => decide (x < y)) := ⟨fun x y z h1 h2 => by simp at *; omega, fun x y h => by simp at *; omega, fun x y h1 h2 => by simp at *; omega⟩
theorem lexI_irr : ∀ x : List Int, lexI x x = false
  | [] => rfl
  | x :: r => by simp [lexI, lexI_irr r]
theorem tot_lex : Tot lexI := by
  refine ⟨?_, ?_, ?_⟩
  · intro x
    induction x with
    | nil =>
      intro y z h1 h2
      cases z with
      | nil => cases y <;> simp [lexI] at h2
      | cons c z => rfl
    | cons a x ih =>
      intro y z h1 h2
      cases y with
      | nil => simp [lexI] at h1
      | cons b y =>
        cases z with
        | nil => simp [lexI] at h2
        | cons c z =>
          simp only [lexI] at h1 h2 ⊢
          by_cases e1 : a = b
          · subst e1
            by_cases e2 : a = c
            · subst e2
              simp only [if_pos] at h1 h2 ⊢
              exact ih y z h1 h2
            · simp only [if_pos, e2, if_neg, not_false_eq_true] at h1 h2 ⊢; exact h2
          · simp only [e1, if_neg, not_false_eq_true, decide_eq_true_eq] at h1
            by_cases e2 : b = c
            · subst e2
              simp only [e1, if_neg, not_false_eq_true, decide_eq_true_eq]; exact h1
            · simp only [e2, if_neg, not_false_eq_true, decide_eq_true_eq] at h2
              have e3 : a ≠ c := by omega
              simp only [e3, if_neg, not_false_eq_true, decide_eq_true_eq]; omega
  · intro x
    induction x with
    | nil => intro y h; cases y <;> rfl
    | cons a x ih =>
      intro y h
      cases y with
      | nil => simp [lexI] at h
      | cons b y =>
        simp only [lexI] at h ⊢
        by_cases e : a = b
        · subst e; simp only [if_pos] at h ⊢; exact ih y h
        · have e' : b ≠ a := Ne.symm e
          simp only [e, e', if_neg, not_false_eq_true, decide_eq_true_eq, decide_eq_false_iff_not] at h ⊢; omega
  · intro x
    induction x with
    | nil => intro y h1 h2; cases y with
      | nil => rfl
      | cons b y => simp [lexI] at h1
    | cons a x ih =>
      intro y h1 h2
      cases y with
      | nil => simp [lexI] at h2
      | cons b y =>
        simp only [lexI] at h1 h2
        by_cases e : a = b
        · subst e; simp only [if_pos] at h1 h2; rw [ih y h1 h2]
        · have e' : b ≠ a := Ne.symm e
          simp only [e, e', if_neg, not_false_eq_true, decide_eq_false_iff_not] at h1 h2; omega
theorem srtI_app (l : List Int) (a : Int) : srtI (l ++ [a]) = insG (fun x y => decide (x < y)) a (srtI l) := by
  simp [srtI, sortG, List.foldl_append]
theorem srtI_srt (l m : List Int) : srtI (srtI l ++ m) = srtI (l ++ m) := sortG_of_perm tot_int ((sortG_perm _ l).append_right m)
/-- lots as sorted ones -/
theorem lotsG_srt (xs : List Int) : ∀ F : List (List Int), (lotsG F xs).map srtI = xs.foldl (fun T a => T ++ T.map (insG (fun x y => decide (x < y)) a)) (F.map srtI) := by
  induction xs with
  | nil => intro F; rfl
  | cons a r ih =>
    intro F
    show (lotsG (F ++ F.map (· ++ [a])) r).map srtI = _
    rw [ih]
    simp only [List.foldl_cons, List.map_append, List.map_map]
    congr 2
    apply List.map_congr_left
    intro l _
    exact srtI_app l a
theorem lots_perm {xs ys : List Int} (p : xs.Perm ys) : ∀ {T U : List (List Int)}, T.Perm U → (xs.foldl (fun T a => T ++ T.map (insG (fun x y => decide (x < y)) a)) T).Perm (ys.foldl (fun T a => T ++ T.map (insG (fun x y => decide (x < y)) a)) U) := by
  have step : ∀ (a : Int) {T U : List (List Int)}, T.Perm U → (T ++ T.map (insG (fun x y => decide (x < y)) a)).Perm (U ++ U.map (insG (fun x y => decide (x < y)) a)) := fun a T U h => h.append (h.map _)
  have all : ∀ (l : List Int) {T U : List (List Int)}, T.Perm U → (l.foldl (fun T a => T ++ T.map (insG (fun x y => decide (x < y)) a)) T).Perm (l.foldl (fun T a => T ++ T.map (insG (fun x y => decide (x < y)) a)) U) := by
    intro l
    induction l with
    | nil => intro T U h; exact h
    | cons a r ih => intro T U h; exact ih (step a h)
  induction p with
  | nil => intro T U h; exact h
  | cons x _ ih => intro T U h; exact ih (step x h)
  | swap x y l =>
    intro T U h
    refine all l ?_
    show ((T ++ T.map _) ++ (T ++ T.map _).map _).Perm ((U ++ U.map _) ++ (U ++ U.map _).map _)
    have e : ∀ T : List (List Int), ((T ++ T.map (insG (fun x y => decide (x < y)) x)) ++ (T ++ T.map (insG (fun x y => decide (x < y)) x)).map (insG (fun x y => decide (x < y)) y)).Perm ((T ++ T.map (insG (fun x y => decide (x < y)) y)) ++ (T ++ T.map (insG (fun x y => decide (x < y)) y)).map (insG (fun x y => decide (x < y)) x)) := by
      intro T
      simp only [List.map_append, List.map_map, List.append_assoc]
      refine List.Perm.append_left T ?_
      have c : (List.map (insG (fun x y => decide (x < y)) y ∘ insG (fun x y => decide (x < y)) x) T) = (List.map (insG (fun x y => decide (x < y)) x ∘ insG (fun x y => decide (x < y)) y) T) := by
        apply List.map_congr_left
        intro l _
        exact insG_comm tot_int y x l
      rw [c, ← List.append_assoc, ← List.append_assoc]
      exact List.Perm.append_right _ List.perm_append_comm
    exact (step x (step y h)).trans (e U).symm
  | trans _ _ ih1 ih2 => intro T U h; exact (ih1 h).trans (ih2 (List.Perm.refl _))
/-- the lots that the law makes, the lots that the program makes -/
def endsO (n : Nt) (ts : List (Option Int)) (m : Int) : List (List Int) := srtL ((lotsG [[]] (mayL n ts m)).map fun lot => srtI (lot ++ mustL n ts m))
theorem endsO_eq (n : Nt) (ts : List (Option Int)) (m : Int) : endsO n ts m = endsAt n ts m := by
  unfold endsO endsAt
  refine sortG_of_perm tot_lex ?_
  have e : ∀ F : List (List Int), (F.map fun lot => srtI (lot ++ mustL n ts m)) = (F.map srtI).map fun lot => srtI (lot ++ mustL n ts m) := by
    intro F
    rw [List.map_map]
    apply List.map_congr_left
    intro l _
    exact (srtI_srt l _).symm
  rw [e (lotsG [[]] (mayL n ts m)), e (srtL (lotsG [[]] (srtI (mayL n ts m))))]
  refine List.Perm.map _ ?_
  rw [lotsG_srt]
  refine List.Perm.trans ?_ ((sortG_perm lexI (lotsG [[]] (srtI (mayL n ts m)))).map srtI).symm
  rw [lotsG_srt]
  exact lots_perm (sortG_perm _ _).symm (List.Perm.refl _)
end G
namespace K97
open G
theorem raw_ends_next_w (n : Nt) (w : WN n) (ts : List (Option Int)) (hl : (ts.length : Int) = n.many) (m : Int) (lot : List Int) (S : Store) : fm_raw_ends_next [dN n, dPl m ts, dLot lot] S = .ok (.tup ((endsAt n (wc ts lot m) (m + 1)).map dLot)) S := by
  have hm := inR_iff.mp w.many
  refine fnP_ok rfl (by simp) (S1 := []) ?_ (by simp)
  have e1 := with_come_w ts lot m (by omega) []
  have e2 := ends_at_w n w (wc ts lot m) (by rw [wc_len]; exact hl) (m + 1) []
  simp only [m_raw_ends_next, envOf]
  simp [dPl]
  simp [e1, e2]
theorem raw_place_behind_w (ts : List (Option Int)) (hl : ts.length < 1000000) (m : Int) (lot ends : List Int) (S : Store) : fm_raw_place_behind [dPl m ts, dLot lot, dLot ends] S = .ok (dPl (m + 1) (wc (wc ts lot m) ends (m + 1))) S := by
  refine fnP_ok rfl (by simp) (S1 := []) ?_ (by simp)
  have e1 := with_come_w ts lot m hl []
  have e2 := with_come_w (wc ts lot m) ends (m + 1) (by rw [wc_len]; exact hl) []
  simp only [m_raw_place_behind, envOf]
  simp [dPl]
  simp [e1, e2]
theorem raw_is_lot_w (n : Nt) (l : List Int) (hl : l.length < 1000000) (S : Store) : fm_raw_is_lot [dN n, dLot l] S = .ok (.bl (l.all (inR 0 (n.many - 1)) && rise (fun x y => decide (x < y)) l)) S := by
  refine fnP_ok rfl (by simp) (S1 := []) ?_ rfl
  have e1 := is_lot_i l n.many hl []
  have e0 : ∀ S, bIx S (dN n) (.int 0) = some (.int n.many) := fun S => by simp [dN]
  simp only [m_raw_is_lot, envOf]
  simp [e0, e1]
end K97
end

section
set_option Elab.async false
set_option linter.all false
set_option maxRecDepth 100000
set_option maxHeartbeats 4000000
/-! P8: places; live runs. By an AI agent. -/
namespace G
/-- a place of the game -/
structure Plc (n : Nt) (m : Int) (ts : List (Option Int)) : Prop where
  len : (ts.length : Int) = n.many
  m0 : 0 ≤ m
  z : tAt ts 0 = some 0
  le : ∀ o ∈ ts, ∀ t, o = some t → 0 ≤ t ∧ t ≤ m
  own : ∀ e ∈ oursL n, tAt ts e ≠ some m
  came : ∀ l ∈ n.ls, ∀ t, tAt ts l.2.2.2 = some t → ∃ t0, tAt ts l.1 = some t0 ∧ l.2.1 ≤ t - t0 ∧ t - t0 ≤ l.2.2.1
  wait : ∀ l ∈ n.ls, tAt ts l.2.2.2 = none → ∀ t0, tAt ts l.1 = some t0 → m - t0 < l.2.2.1
theorem any_non (ts : List (Option Int)) : ((ts.map dO).any fun z => z.eqv .non) = ts.any Option.isNone := by
  rw [List.any_map]
  congr 1
  funext o
  cases o <;> rfl
theorem bNotIn_ts (S : Store) (ts : List (Option Int)) : bNotIn S .non (dTs ts) = some (.bl (!ts.any Option.isNone)) := by
  simp only [bNotIn, bIn, dicAt, dTs, memD, seqOf, rd_tupE, pl_non, Bool.true_and]
  have : (ts.map dO).all (D.pl 19) = true := by simp
  rw [this, if_pos rfl, any_non]
  rfl
theorem bNotIn_tsR (S : Store) (k : Nat) (ts : List (Option Int)) (h : S[k]? = some (.lst (ts.map dO))) : bNotIn S .non (.ref k) = some (.bl (!ts.any Option.isNone)) := by
  have h2 : rd S (.ref k) = .lst (ts.map dO) := by simp [rd, h]
  simp only [bNotIn, bIn, dicAt, h, memD, seqOf, h2, pl_non, Bool.true_and]
  have : (ts.map dO).all (D.pl 19) = true := by simp
  rw [this, if_pos rfl, any_non]
  rfl
@[simp] theorem bNe_dO0 (S : Store) (o : Option Int) (i : Int) : bEq S (dO o) (.int i) = some (.bl (decide (o = some i))) := by
  cases o with
  | none => simp [bEq, dEq, dO, deep, D.eqv, toB]
  | some j => simp [dO]
end G
namespace K97
open G
theorem raw_is_place_w (n : Nt) (w : WN n) (m : Int) (ts : List (Option Int)) (p : Plc n m ts) (S : Store) : fm_raw_is_place [dN n, dPl m ts] S = .ok (.bl true) S := by
  have hm := inR_iff.mp w.many
  have hl := p.len
  refine fnP_ok rfl (by simp) (S1 := []) ?_ rfl
  have e0 : fm_is_sized [dPl m ts, .int 2, .int 2] [] = .ok (.bl true) [] := is_sized_t [.int m, dTs ts] (by simp) 2 2 []
  have e1 : fm_is_sized [dTs ts, .int n.many, .int n.many] [] = .ok (.bl true) [] := by
    have := is_sized_t (ts.map dO) (by simp) n.many n.many []
    rw [List.length_map, show inR n.many n.many (ts.length : Int) = true by rw [inR_iff]; omega] at this
    exact this
  have b0 : ∀ S, bIx S (dPl m ts) (.int 0) = some (.int m) := fun S => by simp [dPl]
  have bt0 : bIx [] (dTs ts) (.int 0) = some (.int 0) := by
    have := bIx_ts [] ts 0 (by omega) (by omega)
    rw [p.z] at this; exact this
  have bn0 : ∀ S, bIx S (dN n) (.int 0) = some (.int n.many) := fun S => by simp [dN]
  have bn2 : ∀ S, bIx S (dN n) (.int 2) = some (.tup (n.ls.map dL)) := fun S => by simp [dN]
  have w0 : fm_is_within [.int 0, .int 0, .int 0] [] = .ok (.bl true) [] := is_within_i 0 0 0 []
  have c1 : goLc [9] (.nm 9) G.tYes (eOrV (eUn uIsN (eVar 9)) (eCall fm_is_within (aCons (eVar 9) (aCons (eC (.int 0)) (aCons (eVar 2) aNil))))) [some (dN n), some (dPl m ts), some (.int m), some (dTs ts), none, none, none, none, none, none] (ts.map dO) [] [] = .ok (.lst (ts.map fun _ => .bl true)) [] := by
    refine goLc_all dO _ ts (fun x hx => ⟨_, by simp [wipeE]; rfl, ?_⟩) (by omega)
    cases x with
    | none => simp [dO]
    | some t =>
      have := p.le _ hx t rfl
      have h : inR 0 m t = true := by rw [inR_iff]; omega
      simp [dO, is_within_i, h]
  have c2 : goLc [8] (.nm 8) G.tYes (eBin bEq (eBin bIx (eVar 3) (eVar 8)) (eVar 2)) [some (dN n), some (dPl m ts), some (.int m), some (dTs ts), none, none, none, none, none, none] ((oursL n).map D.int) [] [] = .ok (.lst ((oursL n).map fun _ => .bl false)) [] := by
    refine goLc_all D.int _ (oursL n) (fun x hx => ⟨_, by simp [wipeE]; rfl, ?_⟩) ?_
    · have hx2 := mem_rgIJ.mp (List.mem_filter.mp hx).1
      have h := bIx_ts [] ts x (by omega) (by omega)
      have h2 := p.own x hx
      simp [h, h2]
    · have := List.length_filter_le (fun e => !decide (e ∈ endsL n)) (rgIJ 1 n.many)
      rw [rgIJ_len] at this
      simp only [oursL]
      omega
  obtain ⟨env', S', g1, ⟨o1, o2, o3, o4, g2⟩, g3⟩ := goFor_fold (p := .tp [.nm 4, .nm 5, .nm 6, .nm 7]) (body := sSeq (sIf (G.tAnd (tV (eUn uNotN (eBin bIx (eVar 3) (eVar 7)))) (G.tOr (tV (eUn uIsN (eBin bIx (eVar 3) (eVar 4)))) (tNot (tV (eChain bLe bLe (eVar 5) (eBin bSub (eBin bIx (eVar 3) (eVar 7)) (eBin bIx (eVar 3) (eVar 4))) (eVar 6)))))) (sRet (eC (.bl false))) sNil)
    (sIf (G.tAnd (tV (eUn uIsN (eBin bIx (eVar 3) (eVar 7)))) (G.tAnd (tV (eUn uNotN (eBin bIx (eVar 3) (eVar 4)))) (tV (eBin bGe (eBin bSub (eVar 2) (eBin bIx (eVar 3) (eVar 4))) (eVar 6))))) (sRet (eC (.bl false))) sNil))
    dL (fun (_ : Unit) _ => ()) (fun _ _ env S => (∃ o1 o2 o3 o4, env = [some (dN n), some (dPl m ts), some (.int m), some (dTs ts), o1, o2, o3, o4, none, none]) ∧ S = []) n.ls 0 () [some (dN n), some (dPl m ts), some (.int m), some (dTs ts), none, none, none, none, none, none] [] ⟨⟨none, none, none, none, rfl⟩, rfl⟩ (by
      rintro j _ env S l hln hj1 hj2 ⟨⟨o1, o2, o3, o4, rfl⟩, rfl⟩
      obtain ⟨e1, e2, e3, e4, _⟩ := w.ev hln
      have tc : ∀ S, bIx S (dTs ts) (.int l.2.2.2) = some (dO (tAt ts l.2.2.2)) := fun S => bIx_ts S ts l.2.2.2 (by omega) (by omega)
      have ta : ∀ S, bIx S (dTs ts) (.int l.1) = some (dO (tAt ts l.1)) := fun S => bIx_ts S ts l.1 (by omega) (by omega)
      refine ⟨_, [some (dN n), some (dPl m ts), some (.int m), some (dTs ts), some (.int l.1), some (.int l.2.1), some (.int l.2.2.1), some (.int l.2.2.2), none, none], [], by simp [dL]; rfl, ?_, ⟨_, _, _, _, rfl⟩, rfl⟩
      cases h1 : tAt ts l.2.2.2 with
      | some t1 =>
        obtain ⟨t0, h2, h3, h4⟩ := p.came l hln t1 h1
        simp [tc, ta, h1, h2, dO, h3, h4]
      | none =>
        cases h2 : tAt ts l.1 with
        | none => simp [tc, ta, h1, h2, dO]
        | some t0 =>
          have h3 := p.wait l hln h1 t0 h2
          have h4 : ¬ l.2.2.1 ≤ m - t0 := by omega
          simp [tc, ta, h1, h2, dO, h4])
  have g0 : ∀ env S, iSeq (eBin bIx (eVar 0) (eC (.int 2))) (some (dN n) :: env) S = .ok (n.ls.map dL) S := fun env S => by simp [bn2]
  have go : iSeq (eCall fm_raw_ours (aCons (eVar 0) aNil)) [some (dN n), some (dPl m ts), some (.int m), some (dTs ts), none, none, none, none, none, none] [] = .ok ((oursL n).map D.int) [] := by simp [raw_ours_w n w, dLot]
  have gt : iSeq (eVar 3) [some (dN n), some (dPl m ts), some (.int m), some (dTs ts), none, none, none, none, none, none] [] = .ok (ts.map dO) [] := by simp [dTs]
  have a1 : fAll [] [.lst (ts.map fun _ => D.bl true)] = some (.bl true) := by
    rw [fAll_map [] (fun _ => true) ts]; simp
  have a2 : fAny [] [.lst ((oursL n).map fun _ => D.bl false)] = some (.bl false) := by
    rw [fAny_map [] (fun _ => false) (oursL n)]; simp
  have hm0 := p.m0
  have bp : bindPs [.nm 2, .nm 3] [.int m, dTs ts] [some (dN n), some (dPl m ts), none, none, none, none, none, none, none, none] = some [some (dN n), some (dPl m ts), some (.int m), some (dTs ts), none, none, none, none, none, none] := by simp
  have bp' : bindP (.tp [.nm 2, .nm 3]) (dPl m ts) [some (dN n), some (dPl m ts), none, none, none, none, none, none, none, none] = some [some (dN n), some (dPl m ts), some (.int m), some (dTs ts), none, none, none, none, none, none] := bp
  simp only [m_raw_is_place, envOf]
  subst g2 g3
  simp [-iSeq_ev, e0, b0, is_int_i, show ¬ m < 0 by omega, bp', bn0, e1, bt0, w0, gt, c1, a1, go, c2, a2, g0, g1]
theorem check_place_w (n : Nt) (w : WN n) (m : Int) (ts : List (Option Int)) (p : Plc n m ts) (S : Store) : fm_check_place [dN n, dPl m ts] S = .ok .non S := by
  refine fnP_ok rfl (by simp) (S1 := []) ?_ rfl
  simp only [m_check_place, envOf]
  simp [check_net_w n w, raw_is_place_w n w m ts p]
theorem check_lot_w (n : Nt) (w : WN n) (ts : List (Option Int)) (hl : (ts.length : Int) = n.many) (lot : List Int) (h1 : lot.all (inR 0 (n.many - 1)) = true) (h2 : rise (fun x y => decide (x < y)) lot = true) (h3 : ∀ x ∈ lot, x ∈ leftL n ts) (h4 : lot.length < 1000) (S : Store) : fm_check_lot [dN n, dTs ts, dLot lot] S = .ok .non S := by
  refine fnP_ok rfl (by simp) (S1 := []) ?_ rfl
  have e1 := is_lot_i lot n.many (by omega) []
  rw [h1, h2] at e1
  have e0 : ∀ S, bIx S (dN n) (.int 0) = some (.int n.many) := fun S => by simp [dN]
  have c1 : goLc [3] (.nm 3) G.tYes (eBin bInD (eVar 3) (eCall fm_raw_left (aCons (eVar 0) (aCons (eVar 1) aNil)))) [some (dN n), some (dTs ts), some (dLot lot), none] (lot.map D.int) [] [] = .ok (.lst (lot.map fun _ => .bl true)) [] := by
    refine goLc_all D.int _ lot (fun x hx => ⟨_, by simp [wipeE]; rfl, ?_⟩) (by omega)
    have h := raw_left_w n w ts hl []
    have h2 := bInD_lst [] x (leftL n ts)
    simp [h, h2, h3 x hx]
  have a1 : fAll [] [.lst (lot.map fun _ => D.bl true)] = some (.bl true) := by
    rw [fAll_map [] (fun _ => true) lot]; simp
  have gt : iSeq (eVar 2) [some (dN n), some (dTs ts), some (dLot lot), none] [] = .ok (lot.map D.int) [] := by simp [dLot]
  simp only [m_check_lot, envOf]
  simp [-iSeq_ev, e0, e1, gt, c1, a1]
theorem ends_next_w (n : Nt) (w : WN n) (m : Int) (ts : List (Option Int)) (p : Plc n m ts) (lot : List Int) (h1 : lot.all (inR 0 (n.many - 1)) = true) (h2 : rise (fun x y => decide (x < y)) lot = true) (h3 : ∀ x ∈ lot, x ∈ leftL n ts) (h4 : lot.length < 1000) (S : Store) :
    fm_ends_next [dN n, dPl m ts, dLot lot] S = .ok (.tup ((endsAt n (wc ts lot m) (m + 1)).map dLot)) S := by
  refine fnP_ok rfl (by simp) (S1 := []) ?_ (by simp)
  have b1 : ∀ S, bIx S (dPl m ts) (.int 1) = some (dTs ts) := fun S => by simp [dPl]
  simp only [m_ends_next, envOf]
  simp [check_place_w n w m ts p, b1, check_lot_w n w ts p.len lot h1 h2 h3 h4, raw_ends_next_w n w ts p.len m lot]
end K97
end

section
set_option Elab.async false
set_option linter.all false
set_option maxRecDepth 100000
set_option maxHeartbeats 4000000
/-! P9: a live run in the store. By an AI agent. -/
namespace G
theorem atD_last (xs : List D) (x : D) : atD (xs ++ [x]) (-1) = some x := by
  have h : ixN (xs ++ [x]).length (-1) = some xs.length := by
    unfold ixN
    rw [if_neg (by decide), if_pos (by simp; omega)]
    congr 1; simp; omega
  unfold atD
  rw [h]
  simp
@[simp] theorem uNeg_i (S : Store) (i : Int) : uNeg S (.int i) = some (.int (-i)) := rfl
theorem uFld_ref {S : Store} {v c : Nat} {fs : List (Nat × D)} (k : Nat) {d : D} (h : S[v]? = some (.ins c fs)) (hk : fget k fs = some d) : uFld c k S (.ref v) = some d := by
  simp [uFld, h, hk]
theorem bIx_lastR {S : Store} {q : Nat} {xs : List D} {x : D} (h : S[q]? = some (.lst (xs ++ [x]))) : bIx S (.ref q) (.int (-1)) = some x := by
  have : rd S (.ref q) = .lst (xs ++ [x]) := by simp [rd, h]
  simp only [bIx, dicAt, h, this]
  exact atD_last xs x
@[simp] theorem eMeth_ev (bad : List Nat) (c : Nat) (f : FM) (o : EM) (a : AM) (env : Env) (S : Store) : eMeth bad c f o a env S = (o env S).bnd fun x S1 => match x with
  | .ref n => match S1[n]? with
    | some (.ins c' fs) => if Nat.beq c' c && okFs bad fs then (a env S1).bnd fun xs S2 => f (.ref n :: xs) S2 else .stuck
    | _ => .stuck
  | _ => .stuck := rfl
@[simp] theorem eAppend_e2 (a e : EM) (env : Env) (S : Store) : eAppend a e env S = (a env S).bnd fun x S1 => match isL S1 x with
  | true => (e env S1).bnd fun v S2 => match pushL S2 x [v] with
    | some S3 => .ok .non S3
    | none => .stuck
  | false => .stuck := rfl
theorem fnR_as {m n : Nat} {body : SM} {xs : List D} {S : Store} {r : R D} (hm : xs.length = m) (h : ofO2 (body (envOf n xs) S) = r) : fnR m n body xs S = r := (fnR_of hm).trans h
theorem eqvL_map {α : Type} [DecidableEq α] (enc : α → D) (h : ∀ x y, (enc x).eqv (enc y) = decide (x = y)) : ∀ xs ys : List α, eqvL (xs.map enc) (ys.map enc) = decide (xs = ys)
  | [], [] => by simp [eqvL]
  | [], y :: ys => by simp [eqvL]
  | x :: xs, [] => by simp [eqvL]
  | x :: xs, y :: ys => by
    simp only [List.map_cons, eqvL, h, eqvL_map enc h xs ys]
    rw [Bool.eq_iff_iff]; simp
theorem eqv_int (x y : Int) : (D.int x).eqv (.int y) = decide (x = y) := by simp [D.eqv]
theorem eqv_dO (x y : Option Int) : (dO x).eqv (dO y) = decide (x = y) := by
  cases x <;> cases y <;> simp [dO, D.eqv]
theorem eqv_lot (x y : List Int) : (dLot x).eqv (dLot y) = decide (x = y) := by
  simp only [dLot, D.eqv]; exact eqvL_map D.int eqv_int x y
theorem eqv_lots (x y : List (List Int)) : (D.tup (x.map dLot)).eqv (.tup (y.map dLot)) = decide (x = y) := by
  simp only [D.eqv]; exact eqvL_map dLot eqv_lot x y
theorem eqv_ts (x y : List (Option Int)) : (dTs x).eqv (dTs y) = decide (x = y) := by
  simp only [dTs, D.eqv]; exact eqvL_map dO eqv_dO x y
@[simp] theorem pl_lot (k : Nat) (x : List Int) : (dLot x).pl (k + 1) = true := by simp [dLot, D.pl]
@[simp] theorem pl_ts (k : Nat) (x : List (Option Int)) : (dTs x).pl (k + 1) = true := by
  simp only [dTs, D.pl, List.all_map, List.all_eq_true]
  intro o _; cases o <;> cases k <;> rfl
theorem any_lot (x : List Int) (l : List (List Int)) : ((l.map dLot).any fun z => z.eqv (dLot x)) = decide (x ∈ l) := by
  rw [List.any_map, Bool.eq_iff_iff]
  simp only [List.any_eq_true, Function.comp, eqv_lot, decide_eq_true_eq]
  exact ⟨fun ⟨y, h1, h2⟩ => h2 ▸ h1, fun h => ⟨x, h, rfl⟩⟩
theorem bIn_lots (S : Store) (x : List Int) (l : List (List Int)) : bIn S (dLot x) (.tup (l.map dLot)) = some (decide (x ∈ l)) := by
  simp only [bIn, dicAt, memD, seqOf, rd_tupE]
  rw [if_pos (by simp [deep]), any_lot]
theorem bInD_lots (S : Store) (x : List Int) (l : List (List Int)) : bInD S (dLot x) (.tup (l.map dLot)) = some (.bl (decide (x ∈ l))) := by rw [bInD, bIn_lots]; rfl
theorem bNotIn_lots (S : Store) (x : List Int) (l : List (List Int)) : bNotIn S (dLot x) (.tup (l.map dLot)) = some (.bl (!decide (x ∈ l))) := by rw [bNotIn, bIn_lots]; rfl
mutual
theorem eqv_self : ∀ (k : Nat) (d : D), d.pl k = true → d.eqv d = true
  | _, .non, _ => by simp [D.eqv]
  | _, .bl _, _ => by simp [D.eqv]
  | _, .int _, _ => by simp [D.eqv]
  | _, .str _, _ => by simp [D.eqv]
  | k, .tup xs, h => by
    cases k with
    | zero => simp [D.pl] at h
    | succ k => simp only [D.eqv]; simp only [D.pl] at h; exact eqvL_self k xs h
  | k, .lst xs, h => by
    cases k with
    | zero => simp [D.pl] at h
    | succ k => simp only [D.eqv]; simp only [D.pl] at h; exact eqvL_self k xs h
  | k, .scr _, h => by cases k <;> simp [D.pl] at h
  | k, .ref _, h => by cases k <;> simp [D.pl] at h
  | k, .err, h => by cases k <;> simp [D.pl] at h
  | k, .dct _ _, h => by cases k <;> simp [D.pl] at h
theorem eqvL_self : ∀ (k : Nat) (xs : List D), xs.all (D.pl k) = true → eqvL xs xs = true
  | _, [], _ => by simp [eqvL]
  | k, x :: xs, h => by
    simp only [List.all_cons, Bool.and_eq_true] at h
    simp [eqvL, eqv_self k x h.1, eqvL_self k xs h.2]
end
theorem rd_pl (S : Store) {k : Nat} {d : D} (h : d.pl k = true) : rd S d = d := by
  cases d <;> first | rfl | (cases k <;> simp [D.pl] at h)
theorem bEq_self (S : Store) {d : D} (h : d.pl 20 = true) : bEq S d d = some (.bl true) := by
  simp [bEq, dEq, rd_pl S h, h, deep, eqv_self 20 d h, toB]
theorem bNe_self (S : Store) {d : D} (h : d.pl 20 = true) : bNe S d d = some (.bl false) := by
  simp [bNe, dEq, rd_pl S h, h, deep, eqv_self 20 d h]
/-- the fields of a live run -/
def lvF (n : Nt) (q : Nat) : List (Nat × D) := [(8, dN n), (9, .ref q)]
/-- a live run at v, its stages at q -/
structure Lv (S : Store) (v q : Nat) (n : Nt) (pre : List D) (m : Int) (ts : List (Option Int)) : Prop where
  i : S[v]? = some (.ins 2 (lvF n q))
  s : S[q]? = some (.lst (pre ++ [dPl m ts]))
theorem Lv.set {S : Store} {v q : Nat} {n : Nt} {pre pre' : List D} {m m' : Int} {ts ts' : List (Option Int)} (h : Lv S v q n pre m ts) : Lv (S.set q (.lst (pre' ++ [dPl m' ts']))) v q n pre' m' ts' := by
  have hq : q < S.length := (List.getElem?_eq_some_iff.mp h.s).1
  have ne : q ≠ v := fun e => by
    have h1 := h.i
    rw [← e, h.s] at h1; cases h1
  exact ⟨by rw [List.getElem?_set_ne ne]; exact h.i, by rw [List.getElem?_set_self hq]⟩
end G
namespace K97
open G
section
variable {S : Store} {v q : Nat} {n : Nt} {pre : List D} {m : Int} {ts : List (Option Int)}
theorem lv_times (h : Lv S v q n pre m ts) : fm_Live_times [.ref v] S = .ok (dTs ts) S := by
  have e1 := uFld_ref 9 h.i (d := .ref q) rfl
  have e2 := bIx_lastR h.s
  have e3 : ∀ S, bIx S (dPl m ts) (.int 1) = some (dTs ts) := fun S => by simp [dPl]
  refine fnR_as rfl ?_
  simp only [m_Live_times, envOf]
  simp [e1, e2, e3]
theorem lv_minute (h : Lv S v q n pre m ts) : fm_Live_minute [.ref v] S = .ok (.int m) S := by
  have e1 := uFld_ref 9 h.i (d := .ref q) rfl
  have e2 := bIx_lastR h.s
  have e3 : ∀ S, bIx S (dPl m ts) (.int 0) = some (.int m) := fun S => by simp [dPl]
  refine fnR_as rfl ?_
  simp only [m_Live_minute, envOf]
  simp [e1, e2, e3]
theorem lv_over (h : Lv S v q n pre m ts) : fm_Live_is_over [.ref v] S = .ok (.bl (!ts.any Option.isNone)) S := by
  have e1 := uFld_ref 9 h.i (d := .ref q) rfl
  have e2 := bIx_lastR h.s
  have e3 : ∀ S, bIx S (dPl m ts) (.int 1) = some (dTs ts) := fun S => by simp [dPl]
  refine fnR_as rfl ?_
  simp only [m_Live_is_over, envOf]
  simp [e1, e2, e3, bNotIn_ts]
theorem lv_come (w : WN n) (hl : (ts.length : Int) = n.many) (h : Lv S v q n pre m ts) (hp : pre.length < 1000) (x : Int) (hx : x ∈ leftL n ts) : fm_Live_come [.ref v, .int x] S = .ok .non (S.set q (.lst ((pre ++ [dPl m ts]) ++ [dPl m (wc ts [x] m)]))) := by
  have hm := inR_iff.mp w.many
  have e1 : ∀ k d, fget k (lvF n q) = some d → uFld 2 k S (.ref v) = some d := fun k d hk => uFld_ref k h.i hk
  have e2 := bIx_lastR h.s
  have e3 := raw_left_w n w ts hl S
  have e4 := bNotIn_lst S x (leftL n ts)
  have e5 := with_come_w ts [x] m (by omega) S
  have e6 := pushL_ref [dPl m (wc ts [x] m)] h.s (by simp; omega)
  have e7 : D.tup [.int m, dTs (wc ts [x] m)] = dPl m (wc ts [x] m) := rfl
  have e8 : D.tup [.int x] = dLot [x] := rfl
  have bp : bindP (.tp [.nm 2, .nm 3]) (dPl m ts) [some (.ref v), some (.int x), none, none] = some [some (.ref v), some (.int x), some (.int m), some (dTs ts)] := by simp [dPl]
  refine fnR_as rfl ?_
  simp only [m_Live_come, envOf]
  simp [e1 8 (dN n) rfl, e1 9 (.ref q) rfl, e2, bp, is_int_i, e3, e4, hx, isL_ref h.s, e8, e5, e7, e6]
theorem lv_go (w : WN n) (hl : (ts.length : Int) = n.many) (h : Lv S v q n pre m ts) (hp : pre.length < 1000) (ends : List Int) (he : ends.length < 1000) : fm_Live_go [.ref v, dLot ends] S =
    if (ends.all (inR 0 (n.many - 1)) && rise (fun x y => decide (x < y)) ends) && decide (ends ∈ endsAt n ts (m + 1)) then .ok .non (S.set q (.lst ((pre ++ [dPl m ts]) ++ [dPl (m + 1) (wc ts ends (m + 1))]))) else .exc 3 [] S := by
  have hm := inR_iff.mp w.many
  have e1 : ∀ k d, fget k (lvF n q) = some d → uFld 2 k S (.ref v) = some d := fun k d hk => uFld_ref k h.i hk
  have e2 := bIx_lastR h.s
  have e3 := raw_is_lot_w n ends (by omega) S
  have e4 := raw_ends_next_w n w ts hl m [] S
  rw [wc_nil] at e4
  have e5 := raw_place_behind_w ts (by omega) m [] ends S
  rw [wc_nil] at e5
  have e6 := pushL_ref [dPl (m + 1) (wc ts ends (m + 1))] h.s (by simp; omega)
  have e8 : D.tup [] = dLot [] := rfl
  have e9 := bNotIn_lots S ends (endsAt n ts (m + 1))
  refine fnR_as rfl ?_
  simp only [m_Live_go, envOf]
  cases h1 : (ends.all (inR 0 (n.many - 1)) && rise (fun x y => decide (x < y)) ends) with
  | false => simp [e1 8 (dN n) rfl, e1 9 (.ref q) rfl, e2, e3, h1]
  | true =>
    by_cases h2 : ends ∈ endsAt n ts (m + 1)
    · simp [e1 8 (dN n) rfl, e1 9 (.ref q) rfl, e2, e3, h1, e8, e4, e9, h2, isL_ref h.s, e5, e6]
    · simp [e1 8 (dN n) rfl, e1 9 (.ref q) rfl, e2, e3, h1, e8, e4, e9, h2]
theorem lv_undo (h : Lv S v q n pre m ts) (hp : pre ≠ []) : fm_Live_undo [.ref v] S = .ok (.bl true) (S.set q (.lst pre)) := by
  have e1 : ∀ k d, fget k (lvF n q) = some d → uFld 2 k S (.ref v) = some d := fun k d hk => uFld_ref k h.i hk
  have e2 : fLen S [.ref q] = some (.int ((pre.length + 1 : Nat) : Int)) := by
    have : rd S (.ref q) = .lst (pre ++ [dPl m ts]) := by simp [rd, h.s]
    simp [fLen, this]
  have e3 : ((pre.length + 1 : Nat) : Int) ≠ 1 := by
    have : pre.length ≠ 0 := fun z => hp (List.length_eq_zero_iff.mp z)
    omega
  have e4 : (pre ++ [dPl m ts])[(pre ++ [dPl m ts]).length - 1]? = some (dPl m ts) := by simp
  refine fnR_as rfl ?_
  simp only [m_Live_undo, envOf]
  have e5 : ¬ ((pre.length : Int) + 1 = 1) := by omega
  have e6 : (pre ++ [dPl m ts]).dropLast = pre := by simp
  simp [e1 9 (.ref q) rfl, e2, e5, ePopT, isL_ref h.s, h.s, e4, e6]
end
theorem lv_new (n : Nt) (w : WN n) (h3 : 3 ≤ n.many) (S : Store) : eMake 2 fm_Live___init__ (aCons (eVar 0) aNil) [some (dN n)] S = .ok (.ref S.length) (S ++ [.ins 2 (lvF n (S.length + 1)), .lst [dPl 0 (ts0 n.many)]]) := by
  have e1 := check_net_w n w
  have e2 := raw_first_place_w n w h3
  have i0 : fm_Live___init__ [.ref S.length, dN n] (S ++ [.ins 2 []]) = .ok .non (S ++ [.ins 2 (lvF n (S.length + 1)), .lst [dPl 0 (ts0 n.many)]]) := by
    refine fnR_as rfl ?_
    simp only [m_Live___init__, envOf]
    have g0 : (S ++ [SO.ins 2 []])[S.length]? = some (.ins 2 []) := by simp
    have g1 : (S ++ [SO.ins 2 []]).set S.length (.ins 2 [(8, dN n)]) = S ++ [.ins 2 [(8, dN n)]] := by simp [List.set_append]
    have g2 : (S ++ [SO.ins 2 [(8, dN n)], .lst [dPl 0 (ts0 n.many)]])[S.length]? = some (.ins 2 [(8, dN n)]) := by simp
    have g3 : (S ++ [SO.ins 2 [(8, dN n)], .lst [dPl 0 (ts0 n.many)]]).set S.length (.ins 2 (lvF n (S.length + 1))) = S ++ [.ins 2 (lvF n (S.length + 1)), .lst [dPl 0 (ts0 n.many)]] := by simp [List.set_append]
    simp [e1, sSetT, setT, g0, fput, g1, e2, g2, Nat.beq, Nat.blt, Nat.ble, g3]
    rfl
  unfold eMake
  simp [i0]
end K97
end

section
set_option Elab.async false
set_option linter.all false
set_option maxRecDepth 100000
set_option maxHeartbeats 4000000
/-! P10: what an audit's parts compute. By an AI agent. -/
namespace G
theorem goLcS_all {α : Type} {own : List Nat} {p : Pat} {elt : EM} {env : Env} {S : Store} {k : Nat} (enc : α → D) (g : α → D) (xs : List α) (hk : S[k]? = some (.lst (xs.map enc))) : ∀ (m i : Nat) (acc : List D), i + m = xs.length →
    (∀ x ∈ xs, ∃ e, bindP p (enc x) (wipeE own env) = some e ∧ elt e S = .ok (g x) S) → acc.length + m < 10000000 →
    goLcS own p G.tYes elt env (srcL k) (m + 1) i acc S = .ok (.lst (acc ++ (xs.drop i).map g)) S
  | 0, i, acc, h, _, _ => by
    have : (xs.map enc)[i]? = none := by simp; omega
    simp only [goLcS, srcL, hk, this]
    rw [List.drop_eq_nil_of_le (by omega)]; simp
  | m + 1, i, acc, h, he, hl => by
    have hi : i < xs.length := by omega
    have e1 : (xs.map enc)[i]? = some (enc xs[i]) := by simp [hi]
    obtain ⟨e, h1, h2⟩ := he xs[i] (List.getElem_mem hi)
    have hb : Nat.blt acc.length 10000000 = true := by simp [Nat.blt_eq]; omega
    rw [List.drop_eq_getElem_cons hi]
    unfold goLcS
    simp only [srcL, hk, e1, h1, tYes_ev, h2, hb, if_pos]
    rw [goLcS_all enc g xs hk m (i + 1) (acc ++ [g xs[i]]) (by omega) he (by simp; omega)]
    simp only [List.map_cons, List.append_assoc, List.singleton_append]
theorem bAdd_ll (S : Store) (F G : List D) (h : F.length + G.length ≤ 1000000) : bAdd S (.lst F) (.lst G) = some (.lst (F ++ G)) := by
  simp only [bAdd, rd_lstE]
  rw [if_pos (by simp; omega)]
def midB (n : Nt) : List Bd := n.bs ++ n.ls.flatMap fun l => [(l.1, l.2.2.2, l.2.2.1), (l.2.2.2, l.1, 0 - l.2.1)]
def allB (n : Nt) : List Bd := midB n ++ (rgIJ 1 n.many).map fun e => (e, 0, 0)
def brkB (ts : List (Option Int)) (b : Bd) : Bool := match tAt ts b.1, tAt ts b.2.1 with
  | some t0, some t1 => decide (b.2.2 < t1 - t0)
  | _, _ => false
def brk (n : Nt) (ts : List (Option Int)) : List Int := ((allB n).zipIdx.filter fun p => brkB ts p.1).map fun p => (p.2 : Int)
theorem allB_len (n : Nt) (w : WN n) : (allB n).length ≤ 100 := by
  have h1 := w.bl
  have h2 := w.ll
  have h3 := inR_iff.mp w.many
  have : ∀ ls : List La, (ls.flatMap fun l => [((l.1, l.2.2.2, l.2.2.1) : Bd), (l.2.2.2, l.1, 0 - l.2.1)]).length = 2 * ls.length := by
    intro ls
    induction ls with
    | nil => rfl
    | cons a r ih => simp only [List.flatMap_cons, List.length_append, ih, List.length_cons, List.length_nil]; omega
  simp only [allB, midB, List.length_append, this, List.length_map, rgIJ_len]; omega
theorem allB_ok (n : Nt) (w : WN n) {b : Bd} (h : b ∈ allB n) : 0 ≤ b.1 ∧ b.1 < n.many ∧ 0 ≤ b.2.1 ∧ b.2.1 < n.many := by
  have h3 := inR_iff.mp w.many
  rcases List.mem_append.mp h with h | h
  · rcases List.mem_append.mp h with h | h
    · have := List.all_eq_true.mp w.bo b h
      simp only [okB, Bool.and_eq_true, inR_iff] at this
      omega
    · obtain ⟨l, h1, h2⟩ := List.mem_flatMap.mp h
      have := w.ev h1
      rcases List.mem_cons.mp h2 with rfl | h2
      · simp only; omega
      · rcases List.mem_cons.mp h2 with rfl | h2
        · simp only; omega
        · cases h2
  · obtain ⟨e, h1, rfl⟩ := List.mem_map.mp h
    have := mem_rgIJ.mp h1
    simp only; omega
theorem flatMap_foldl {α β : Type} (f : α → List β) : ∀ (xs : List α) (a : List β), xs.foldl (fun F l => F ++ f l) a = a ++ xs.flatMap f
  | [], a => by simp
  | x :: r, a => by simp [flatMap_foldl f r]
@[simp] theorem eExtend_ev (a e : EM) (env : Env) (S : Store) : eExtend a e env S = (a env S).bnd fun x S1 => match isL S1 x with
  | true => (e env S1).bnd fun v S2 => match rd S2 v with
    | .lst ys => match pushL S2 x ys with
      | some S3 => .ok .non S3
      | none => .stuck
    | _ => .stuck
  | false => .stuck := rfl
@[simp] theorem nrL_dBs (l : List Bd) : nrL (l.map dB) = true := by rw [nrL_all]; simp
@[simp] theorem nrL_dLs (l : List La) : nrL (l.map dL) = true := by rw [nrL_all]; simp
/-- an audit at 0 of its own store, its times at 1 -/
def auF (n : Nt) (k : Int) : List (Nat × D) := [(7, dN n), (6, .int k), (5, .ref 1)]
structure Au (S : Store) (n : Nt) (k : Int) (ts : List (Option Int)) : Prop where
  i : S[0]? = some (.ins 1 (auF n k))
  t : S[1]? = some (.lst (ts.map dO))
theorem Au.app {S : Store} {n : Nt} {k : Int} {ts : List (Option Int)} (h : Au S n k ts) (T : Store) : Au (S ++ T) n k ts := by
  have h1 := (List.getElem?_eq_some_iff.mp h.t).1
  exact ⟨by rw [List.getElem?_append_left (by omega)]; exact h.i, by rw [List.getElem?_append_left h1]; exact h.t⟩
theorem Au.f {S : Store} {n : Nt} {k : Int} {ts : List (Option Int)} (h : Au S n k ts) (j : Nat) {d : D} (hj : fget j (auF n k) = some d) : uFld 1 j S (.ref 0) = some d := uFld_ref j h.i hj
/-- ends that may come, ends that must -/
def canA (ts : List (Option Int)) (m : Int) (l : La) : Bool := (tAt ts l.2.2.2).isNone && match tAt ts l.1 with
  | some t => decide (l.2.1 ≤ m - t)
  | none => false
def mustA (ts : List (Option Int)) (m : Int) (l : La) : Bool := match tAt ts l.1 with
  | some t => decide (l.2.2.1 ≤ m - t)
  | none => false
def canX (n : Nt) (ts : List (Option Int)) (m : Int) : List Int := (n.ls.filter fun l => canA ts m l).map fun l => l.2.2.2
def mustX (n : Nt) (ts : List (Option Int)) (m : Int) : List Int := (n.ls.filter fun l => canA ts m l && mustA ts m l).map fun l => l.2.2.2
def stA (ts : List (Option Int)) (m : Int) (s : List Int × List Int) (l : La) : List Int × List Int := if canA ts m l then (s.1 ++ [l.2.2.2], s.2 ++ if mustA ts m l then [l.2.2.2] else []) else s
theorem stA_fold (ts : List (Option Int)) (m : Int) : ∀ (xs : List La) (a b : List Int), xs.foldl (stA ts m) (a, b) = (a ++ (xs.filter fun l => canA ts m l).map fun l => l.2.2.2, b ++ (xs.filter fun l => canA ts m l && mustA ts m l).map fun l => l.2.2.2)
  | [], a, b => by simp
  | x :: r, a, b => by
    simp only [List.foldl_cons, stA]
    cases h1 : canA ts m x with
    | false => simp [stA_fold ts m r, h1]
    | true => cases h2 : mustA ts m x <;> simp [stA_fold ts m r, h1, h2]
theorem pushL_at0 (S : Store) (a b : List D) (y : List D) (h : a.length + y.length < 10000000) : pushL (S ++ [.lst a, .lst b]) (.ref S.length) y = some (S ++ [.lst (a ++ y), .lst b]) := by
  rw [pushL_ref y (xs := a) (by simp) h]
  simp [List.set_append]
theorem pushL_at1 (S : Store) (a b : List D) (y : List D) (h : b.length + y.length < 10000000) : pushL (S ++ [.lst a, .lst b]) (.ref (S.length + 1)) y = some (S ++ [.lst a, .lst (b ++ y)]) := by
  rw [pushL_ref y (xs := b) (by simp) h]
  simp [List.set_append]
theorem isL_at0 (S : Store) (a b : List D) : isL (S ++ [.lst a, .lst b]) (.ref S.length) = true := isL_ref (xs := a) (by simp)
theorem isL_at1 (S : Store) (a b : List D) : isL (S ++ [.lst a, .lst b]) (.ref (S.length + 1)) = true := isL_ref (xs := b) (by simp)
end G
namespace K97
open G
theorem raw_all_bounds_w (n : Nt) (w : WN n) (S : Store) : fm_raw_all_bounds [dN n] S = .ok (.tup ((allB n).map dB)) S := by
  refine fnP_ok rfl (by simp) (S1 := []) ?_ (by simp)
  have hm := inR_iff.mp w.many
  have hb := w.bl
  have hw := w.ll
  have b0 : ∀ S, bIx S (dN n) (.int 0) = some (.int n.many) := fun S => by simp [dN]
  have b1 : ∀ S, bIx S (dN n) (.int 1) = some (.tup (n.bs.map dB)) := fun S => by simp [dN]
  have b2 : ∀ S, bIx S (dN n) (.int 2) = some (.tup (n.ls.map dL)) := fun S => by simp [dN]
  let P : Nat → List Bd → Env → Store → Prop := fun i s env S => (∃ o1 o2 o3 o4, env = [some (dN n), some (.lst (s.map dB)), o1, o2, o3, o4, none]) ∧ S = [] ∧ s.length ≤ 60 + 2 * i
  obtain ⟨env', S', g1, ⟨o1, o2, o3, o4, g2⟩, g3, g4⟩ := goFor_fold (p := .tp [.nm 2, .nm 3, .nm 4, .nm 5]) (body := sSet (.nm 1) (eBin bAdd (eVar 1) (eLstZ (aCons (eTupZ (aCons (eVar 2) (aCons (eVar 5) (aCons (eVar 4) aNil)))) (aCons (eTupZ (aCons (eVar 5) (aCons (eVar 2) (aCons (eBin bSub (eC (.int 0)) (eVar 3)) aNil)))) aNil)))))
    dL (fun F l => F ++ [(l.1, l.2.2.2, l.2.2.1), (l.2.2.2, l.1, 0 - l.2.1)]) P n.ls 0 n.bs [some (dN n), some (.lst (n.bs.map dB)), none, none, none, none, none] [] ⟨⟨none, none, none, none, rfl⟩, rfl, by omega⟩ (by
      rintro j F env S l hln hj1 hj2 ⟨⟨o1, o2, o3, o4, rfl⟩, rfl, ha⟩
      have q := bAdd_ll [] (F.map dB) [dB (l.1, l.2.2.2, l.2.2.1), dB (l.2.2.2, l.1, 0 - l.2.1)] (by simp; omega)
      refine ⟨_, [some (dN n), some (.lst ((F ++ [(l.1, l.2.2.2, l.2.2.1), (l.2.2.2, l.1, 0 - l.2.1)]).map dB)), some (.int l.1), some (.int l.2.1), some (.int l.2.2.1), some (.int l.2.2.2), none], [], by simp [dL]; rfl, ?_, ⟨_, _, _, _, rfl⟩, rfl, by simp; omega⟩
      simp [dB] at q
      simp [q]
      simp [dB])
  rw [show n.ls.foldl (fun F l => F ++ [(l.1, l.2.2.2, l.2.2.1), (l.2.2.2, l.1, 0 - l.2.1)]) n.bs = midB n from flatMap_foldl _ _ _] at g2
  have g0 : ∀ x r, iSeq (eBin bIx (eVar 0) (eC (.int 2))) (some (dN n) :: x :: r) [] = .ok (n.ls.map dL) [] := fun x r => by simp [b2]
  have l1 : fList [] [.tup (n.bs.map dB)] = some (.lst (n.bs.map dB)) := rfl
  have c1 : goLc [6] (.nm 6) G.tYes (eTupZ (aCons (eVar 6) (aCons (eC (.int 0)) (aCons (eC (.int 0)) aNil)))) env' ((rgIJ 1 n.many).map D.int) [] [] = .ok (.lst ((rgIJ 1 n.many).map fun e => dB (e, 0, 0))) [] := by
    subst g2
    refine goLc_all D.int _ _ (fun x hx => ⟨_, by simp [wipeE]; rfl, ?_⟩) (by rw [rgIJ_len]; omega)
    simp [dB]
  have r1 := rg2_i 1 n.many [] (by omega) (by omega) (by omega) (by omega)
  have al := allB_len n w
  have q2 := bAdd_ll [] ((midB n).map dB) ((rgIJ 1 n.many).map fun e => dB (e, 0, 0)) (by simp only [allB, List.length_append, List.length_map] at al ⊢; omega)
  subst g3
  have v0 : eVar 0 env' [] = .ok (dN n) [] := by rw [g2]; simp
  have v1 : eVar 1 env' [] = .ok (.lst ((midB n).map dB)) [] := by rw [g2]; simp
  simp only [m_raw_all_bounds, envOf]
  simp [-iSeq_ev, b1, l1, g0, g1]
  simp [v0, b0, r1, c1, v1, -List.map_append, q2]
  simp [allB]
theorem law_all_w (n : Nt) (w : WN n) (S : Store) : fm__law_all [dN n] S = .ok (.lst ((allB n).map dB)) S := by
  have hm := inR_iff.mp w.many
  have hb := w.bl
  have hw := w.ll
  have b0 : ∀ S, bIx S (dN n) (.int 0) = some (.int n.many) := fun S => by simp [dN]
  have b1 : ∀ S, bIx S (dN n) (.int 1) = some (.tup (n.bs.map dB)) := fun S => by simp [dN]
  have b2 : ∀ S, bIx S (dN n) (.int 2) = some (.tup (n.ls.map dL)) := fun S => by simp [dN]
  let P : Nat → List Bd → Env → Store → Prop := fun i s env S => (∃ o1 o2 o3 o4, env = [some (dN n), some (.ref 0), o1, o2, o3, o4, none]) ∧ S = [.lst (s.map dB)] ∧ s.length ≤ 60 + 2 * i
  obtain ⟨env', S', g1, ⟨o1, o2, o3, o4, g2⟩, g3, g4⟩ := goFor_fold (p := .tp [.nm 2, .nm 3, .nm 4, .nm 5]) (body := sSeq (sExpr (eAppend (eVar 1) (eTupZ (aCons (eVar 2) (aCons (eVar 5) (aCons (eVar 4) aNil)))))) (sExpr (eAppend (eVar 1) (eTupZ (aCons (eVar 5) (aCons (eVar 2) (aCons (eBin bSub (eC (.int 0)) (eVar 3)) aNil)))))))
    dL (fun F l => F ++ [(l.1, l.2.2.2, l.2.2.1), (l.2.2.2, l.1, 0 - l.2.1)]) P n.ls 0 n.bs [some (dN n), some (.ref 0), none, none, none, none, none] [.lst (n.bs.map dB)] ⟨⟨none, none, none, none, rfl⟩, rfl, by omega⟩ (by
      rintro j F env S l hln hj1 hj2 ⟨⟨o1, o2, o3, o4, rfl⟩, rfl, ha⟩
      have q := pushL_ref (S := [.lst (F.map dB)]) (k := 0) [dB (l.1, l.2.2.2, l.2.2.1)] rfl (by simp; omega)
      have q2 := pushL_ref (S := [.lst (F.map dB ++ [dB (l.1, l.2.2.2, l.2.2.1)])]) (k := 0) [dB (l.2.2.2, l.1, 0 - l.2.1)] rfl (by simp; omega)
      refine ⟨_, [some (dN n), some (.ref 0), some (.int l.1), some (.int l.2.1), some (.int l.2.2.1), some (.int l.2.2.2), none], [.lst ((F ++ [(l.1, l.2.2.2, l.2.2.1), (l.2.2.2, l.1, 0 - l.2.1)]).map dB)], by simp [dL]; rfl, ?_, ⟨_, _, _, _, rfl⟩, rfl, by simp; omega⟩
      simp [dB] at q q2
      simp [isL, q, q2]
      simp [dB])
  rw [show n.ls.foldl (fun F l => F ++ [(l.1, l.2.2.2, l.2.2.1), (l.2.2.2, l.1, 0 - l.2.1)]) n.bs = midB n from flatMap_foldl _ _ _] at g3
  have g0 : ∀ x r S, iSeq (eBin bIx (eVar 0) (eC (.int 2))) (some (dN n) :: x :: r) S = .ok (n.ls.map dL) S := fun x r S => by simp [b2]
  have l1 : itemsOf [] (.tup (n.bs.map dB)) = some (n.bs.map dB) := rfl
  have c1 : ∀ S, goLc [6] (.nm 6) G.tYes (eTupZ (aCons (eVar 6) (aCons (eC (.int 0)) (aCons (eC (.int 0)) aNil)))) env' ((rgIJ 1 n.many).map D.int) [] S = .ok (.lst ((rgIJ 1 n.many).map fun e => dB (e, 0, 0))) S := fun S => by
    subst g2
    refine goLc_all D.int _ _ (fun x hx => ⟨_, by simp [wipeE]; rfl, ?_⟩) (by rw [rgIJ_len]; omega)
    simp [dB]
  have r1 := fun S => rg2_i 1 n.many S (by omega) (by omega) (by omega) (by omega)
  have al := allB_len n w
  have q2 : ∀ S : Store, S[0]? = some (.lst ((midB n).map dB)) → bAdd S (.ref 0) (.lst ((rgIJ 1 n.many).map fun e => dB (e, 0, 0))) = some (.lst ((allB n).map dB)) := fun S hS => by
    have hr : rd S (.ref 0) = .lst ((midB n).map dB) := by simp only [rd, hS]
    simp only [bAdd, hr, rd_lstE]
    rw [if_pos (by simp only [allB, List.length_append, List.length_map] at al; simp only [Nat.ble_eq, List.length_append, List.length_map]; omega)]
    simp [allB, List.map_append]
  have q3 := q2 S' (by rw [g3]; rfl)
  have v0 : eVar 0 env' S' = .ok (dN n) S' := by rw [g2]; simp
  have v1 : eVar 1 env' S' = .ok (.ref 0) S' := by rw [g2]; simp
  refine fnP_ok rfl (by simp) (S1 := S') ?_ (by simp)
  simp only [m__law_all, envOf]
  simp [-iSeq_ev, b1, eListT, l1, g0, g1]
  simp [v0, b0, r1, c1, v1, q3]
/-- the lost bounds: times in a list of the store or in a tuple -/
theorem lost_loop {n : Nt} (w : WN n) {ts : List (Option Int)} {T : D} {S : Store} (hT : ∀ U e, 0 ≤ e → e < n.many → bIx (S ++ U) T (.int e) = some (dO (tAt ts e))) {body : SM} {p : Pat} {env0 : Env} (En : Env → Prop) (h0 : En env0)
    (enc : Bd × Nat → D) (hb : ∀ (x : Bd × Nat) env U, x ∈ (allB n).zipIdx → En env → U.length ≤ 1000 → ∃ e e1, bindP p (enc x) env = some e ∧ body e (S ++ [.lst U]) = .nx e1 (S ++ [.lst (U ++ if brkB ts x.1 then [.int x.2] else [])]) ∧ En e1) :
    ∃ env', goFor p body ((allB n).zipIdx.map enc) env0 (S ++ [.lst []]) = .nx env' (S ++ [.lst ((brk n ts).map D.int)]) ∧ En env' := by
  have al := allB_len n w
  obtain ⟨env', S', g1, g2, g3, g4⟩ := goFor_fold (p := p) (body := body) enc (fun (s : List Int) x => s ++ if brkB ts x.1 then [(x.2 : Int)] else []) (fun i s env S' => En env ∧ S' = S ++ [.lst (s.map D.int)] ∧ s.length ≤ i) (allB n).zipIdx 0 [] env0 (S ++ [.lst []]) ⟨h0, rfl, Nat.le_refl _⟩ (by
    rintro j s env S' x hx hj1 hj2 ⟨h1, rfl, h3⟩
    obtain ⟨e, e1, q1, q2, q3⟩ := hb x env (s.map D.int) hx h1 (by simp at hj2 ⊢; omega)
    refine ⟨e, e1, _, q1, q2, q3, ?_, ?_⟩
    · cases brkB ts x.1 <;> simp
    · cases brkB ts x.1 <;> simp <;> omega)
  refine ⟨env', ?_, g2⟩
  rw [g1, g3]
  congr 3
  have : ∀ (xs : List (Bd × Nat)) (a : List Int), xs.foldl (fun (s : List Int) x => s ++ if brkB ts x.1 then [(x.2 : Int)] else []) a = a ++ (xs.filter fun p => brkB ts p.1).map fun p => (p.2 : Int) := by
    intro xs
    induction xs with
    | nil => intro a; simp
    | cons x r ih =>
      intro a
      simp only [List.foldl_cons, ih]
      cases h : brkB ts x.1 <;> simp [List.filter_cons, h]
  rw [this]
  rfl
end K97
end

section
set_option Elab.async false
set_option linter.all false
set_option maxRecDepth 100000
set_option maxHeartbeats 4000000
/-! P11: broken bounds; the audit's methods. By an AI agent. -/
namespace G
theorem bIx_app {S : Store} {k : Nat} {ts : List (Option Int)} (h : S[k]? = some (.lst (ts.map dO))) (U : Store) (e : Int) (h0 : 0 ≤ e) (h1 : e < ts.length) : bIx (S ++ U) (.ref k) (.int e) = some (dO (tAt ts e)) := by
  refine bIx_tsR _ _ _ ?_ e h0 h1
  rw [List.getElem?_append_left (List.getElem?_eq_some_iff.mp h).1]; exact h
theorem zipIdx_rg {α : Type} (xs : List α) : (rgIJ 0 xs.length).map D.int = xs.zipIdx.map fun p => D.int p.2 := by
  have h : xs.zipIdx.map Prod.snd = List.range xs.length := by rw [List.zipIdx_map_snd]; exact (List.range_eq_range' ..).symm
  have h2 : (xs.zipIdx.map fun p => D.int p.2) = (xs.zipIdx.map Prod.snd).map fun (k : Nat) => D.int (k : Int) := by rw [List.map_map]; rfl
  rw [h2, h]
  simp [rgIJ, rgI]
theorem fTuple_ref (S : Store) (k : Nat) (xs : List D) (h : S[k]? = some (.lst xs)) : fTuple S [.ref k] = some (.tup xs) := by
  have h2 : seqOf S (.ref k) = some xs := by simp [seqOf, rd, h]
  simp [fTuple, h, h2]
theorem fLen_ref (S : Store) (k : Nat) (xs : List D) (h : S[k]? = some (.lst xs)) : fLen S [.ref k] = some (.int xs.length) := by
  simp [fLen, rd, h]
theorem truD_ref (S : Store) (k : Nat) (xs : List D) (h : S[k]? = some (.lst xs)) : truD S (.ref k) = some (!xs.isEmpty) := by
  simp [truD, rd, h]
end G
namespace K97
open G
theorem raw_broken_w (n : Nt) (w : WN n) (ts : List (Option Int)) (hl : (ts.length : Int) = n.many) (k : Nat) (S : Store) (hk : S[k]? = some (.lst (ts.map dO))) : fm_raw_broken [dN n, .ref k] S = .ok (.tup ((brk n ts).map D.int)) (S ++ [.lst ((brk n ts).map D.int)]) := by
  refine fnR_as rfl ?_
  obtain ⟨env', g1, o1, o2, o3, o4, g2⟩ := lost_loop (n := n) (T := .ref k) w (fun U e h0 h1 => bIx_app hk U e h0 (by omega)) (p := .tp [.nm 3, .tp [.nm 4, .nm 5, .nm 6]]) (body := sIf (G.tAnd (tV (eUn uNotN (eBin bIx (eVar 1) (eVar 4)))) (G.tAnd (tV (eUn uNotN (eBin bIx (eVar 1) (eVar 5)))) (tV (eBin bGt (eBin bSub (eBin bIx (eVar 1) (eVar 5)) (eBin bIx (eVar 1) (eVar 4))) (eVar 6))))) (sExpr (eAppend (eVar 2) (eVar 3))) sNil)
    (fun env => ∃ o1 o2 o3 o4, env = [some (dN n), some (.ref k), some (.ref S.length), o1, o2, o3, o4]) ⟨none, none, none, none, rfl⟩ (fun p => D.tup [.int p.2, dB p.1]) (by
    rintro x env U hx ⟨o1, o2, o3, o4, rfl⟩ hU
    obtain ⟨⟨i, j, v⟩, q⟩ := x
    have ho := allB_ok n w (b := (i, j, v)) (by
      have := (List.mem_zipIdx hx).2.2
      rw [this]; exact List.getElem_mem _)
    simp only at ho
    have ti := bIx_app hk [.lst U] i (by omega) (by omega)
    have tj := bIx_app hk [.lst U] j (by omega) (by omega)
    have hp := pushL_ref (S := S ++ [.lst U]) (k := S.length) (xs := U) [.int q] (by simp) (by simp; omega)
    have hi := isL_ref (S := S ++ [.lst U]) (k := S.length) (xs := U) (by simp)
    refine ⟨_, [some (dN n), some (.ref k), some (.ref S.length), some (.int q), some (.int i), some (.int j), some (.int v)], by simp [dB]; rfl, ?_, ⟨_, _, _, _, rfl⟩⟩
    cases h1 : tAt ts i with
    | none => simp [ti, h1, brkB, dO]
    | some t0 =>
      cases h2 : tAt ts j with
      | none => simp [ti, tj, h1, h2, brkB, dO]
      | some t1 =>
        by_cases h3 : v < t1 - t0
        · simp [ti, tj, h1, h2, brkB, dO, h3, hi, hp]
        · simp [ti, tj, h1, h2, brkB, dO, h3])
  have e0 := raw_all_bounds_w n w
  have e1 := enumD_map dB (allB n) 0
  have v2 : eVar 2 env' (S ++ [.lst ((brk n ts).map D.int)]) = .ok (.ref S.length) (S ++ [.lst ((brk n ts).map D.int)]) := by rw [g2]; simp
  have f2 := fTuple_ref (S ++ [.lst ((brk n ts).map D.int)]) S.length ((brk n ts).map D.int) (by simp)
  have i0 : iSeq (eCall fm_raw_all_bounds (aCons (eVar 0) aNil)) [some (dN n), some (.ref k), some (.ref S.length), none, none, none, none] (S ++ [.lst []]) = .ok ((allB n).map dB) (S ++ [.lst []]) := by simp [e0]
  simp only [m_raw_broken, envOf]
  simp [-iSeq_ev, i0, e1, g1, v2, f2]
theorem law_lost_w (n : Nt) (w : WN n) (ts : List (Option Int)) (hl : (ts.length : Int) = n.many) (k : Nat) (S : Store) (hk : S[k]? = some (.lst (ts.map dO))) : fm__law_lost [dN n, .ref k] S = .ok (.ref S.length) (S ++ [.lst ((brk n ts).map D.int)]) := by
  refine fnR_as rfl ?_
  have al := allB_len n w
  obtain ⟨env', g1, o1, o2, o3, o4, g2⟩ := lost_loop (n := n) (T := .ref k) w (fun U e h0 h1 => bIx_app hk U e h0 (by omega)) (p := .nm 2) (body := sSeq (sSet (.tp [.nm 5, .nm 6, .nm 7]) (eBin bIx (eVar 3) (eVar 2))) (sIf (G.tAnd (tV (eUn uNotN (eBin bIx (eVar 1) (eVar 5)))) (G.tAnd (tV (eUn uNotN (eBin bIx (eVar 1) (eVar 6)))) (tV (eBin bGt (eBin bSub (eBin bIx (eVar 1) (eVar 6)) (eBin bIx (eVar 1) (eVar 5))) (eVar 7))))) (sExpr (eAppend (eVar 4) (eVar 2))) sNil))
    (fun env => ∃ o1 o2 o3 o4, env = [some (dN n), some (.ref k), o1, some (.lst ((allB n).map dB)), some (.ref S.length), o2, o3, o4]) ⟨none, none, none, none, rfl⟩ (fun p => D.int p.2) (by
    rintro x env U hx ⟨o1, o2, o3, o4, rfl⟩ hU
    obtain ⟨⟨i, j, v⟩, q⟩ := x
    have hz := List.mem_zipIdx hx
    have ho := allB_ok n w (b := (i, j, v)) (by
      have := hz.2.2
      rw [this]; exact List.getElem_mem _)
    simp only at ho
    have ti := bIx_app hk [.lst U] i (by omega) (by omega)
    have tj := bIx_app hk [.lst U] j (by omega) (by omega)
    have tb : ∀ S, bIx S (.lst ((allB n).map dB)) (.int q) = some (.tup [.int i, .int j, .int v]) := fun S => by
      rw [bIx_lst, atD_nat]
      have h1 := hz.2.2
      have h2 := hz.2.1
      simp only [Nat.zero_add] at h2
      simp only [Nat.sub_zero] at h1
      rw [List.getElem?_map, List.getElem?_eq_getElem h2, ← h1]
      rfl
    have hp := pushL_ref (S := S ++ [.lst U]) (k := S.length) (xs := U) [.int q] (by simp) (by simp; omega)
    have hi := isL_ref (S := S ++ [.lst U]) (k := S.length) (xs := U) (by simp)
    refine ⟨_, [some (dN n), some (.ref k), some (.int q), some (.lst ((allB n).map dB)), some (.ref S.length), some (.int i), some (.int j), some (.int v)], by simp; rfl, ?_, ⟨_, _, _, _, rfl⟩⟩
    cases h1 : tAt ts i with
    | none => simp [-bIx_lst, tb, ti, h1, brkB, dO]
    | some t0 =>
      cases h2 : tAt ts j with
      | none => simp [-bIx_lst, tb, ti, tj, h1, h2, brkB, dO]
      | some t1 =>
        by_cases h3 : v < t1 - t0
        · simp [-bIx_lst, tb, ti, tj, h1, h2, brkB, dO, h3, hi, hp]
        · simp [-bIx_lst, tb, ti, tj, h1, h2, brkB, dO, h3])
  have e0 := law_all_w n w
  have e1 := zipIdx_rg (allB n)
  have r1 := fun S => rg1_i (allB n).length S (by omega) (by omega)
  have v2 : eVar 4 env' (S ++ [.lst ((brk n ts).map D.int)]) = .ok (.ref S.length) (S ++ [.lst ((brk n ts).map D.int)]) := by rw [g2]; simp
  have it : iRange1 (eBuilt fLen (aCons (eVar 3) aNil)) [some (dN n), some (.ref k), none, some (.lst ((allB n).map dB)), some (.ref S.length), none, none, none] (S ++ [.lst []]) = .ok ((allB n).zipIdx.map fun p => D.int p.2) (S ++ [.lst []]) := by
    rw [← e1, iRange1_ev, ← r1]
    have : eBuilt fLen (aCons (eVar 3) aNil) [some (dN n), some (.ref k), none, some (.lst ((allB n).map dB)), some (.ref S.length), none, none, none] (S ++ [.lst []]) = .ok (.int (allB n).length) (S ++ [.lst []]) := by simp
    rw [this, bnd_ok]
  simp only [m__law_lost, envOf]
  have hs : sPar [3, 4] (aCons (eCall fm__law_all (aCons (eVar 0) aNil)) (aCons (eLstN aNil) aNil)) [some (dN n), some (.ref k), none, none, none, none, none, none] S = .nx [some (dN n), some (.ref k), none, some (.lst ((allB n).map dB)), some (.ref S.length), none, none, none] (S ++ [.lst []]) := by
    simp [e0]
  simp only [List.map_cons, List.map_nil, List.length_cons, List.length_nil, List.cons_append, List.nil_append]
  rw [sSeq_ev]
  have hr : List.replicate (8 - (0 + 1 + 1)) (none : Option D) = [none, none, none, none, none, none] := rfl
  rw [hr, hs]
  have s1 : sFor (.nm 2) (iRange1 (eBuilt fLen (aCons (eVar 3) aNil))) (sSeq (sSet (.tp [.nm 5, .nm 6, .nm 7]) (eBin bIx (eVar 3) (eVar 2))) (sIf (G.tAnd (tV (eUn uNotN (eBin bIx (eVar 1) (eVar 5)))) (G.tAnd (tV (eUn uNotN (eBin bIx (eVar 1) (eVar 6)))) (tV (eBin bGt (eBin bSub (eBin bIx (eVar 1) (eVar 6)) (eBin bIx (eVar 1) (eVar 5))) (eVar 7))))) (sExpr (eAppend (eVar 4) (eVar 2))) sNil)) [some (dN n), some (.ref k), none, some (.lst ((allB n).map dB)), some (.ref S.length), none, none, none] (S ++ [.lst []]) = .nx env' (S ++ [.lst ((brk n ts).map D.int)]) := by
    rw [sFor_ev, it]; exact g1
  show ofO2 (sSeq (sFor _ _ _) (sRet (eVar 4)) _ _) = _
  rw [sSeq_ev, s1]
  show ofO2 (sRet (eVar 4) env' _) = _
  rw [sRet_ev, v2]
  rfl
section
variable {S : Store} {n : Nt} {k : Int} {ts : List (Option Int)}
theorem au_over (h : Au S n k ts) : fm_Audit_is_over [.ref 0] S = .ok (.bl (!ts.any Option.isNone)) S := by
  refine fnR_as rfl ?_
  simp only [m_Audit_is_over, envOf]
  simp [h.f 5 (d := .ref 1) rfl, bNotIn_tsR S 1 ts h.t]
theorem au_left (h : Au S n k ts) (xs : List Int) (hx : ∀ e ∈ xs, 0 ≤ e ∧ e < ts.length) (hl : xs.length < 1000) : fm_Audit_left [.ref 0, dLot xs] S = .ok (.lst ((xs.filter fun e => (tAt ts e).isNone).map D.int)) S := by
  refine fnR_as rfl ?_
  have c1 : goLc [2] (.nm 2) (tV (eUn uIsN (eBin bIx (eUn (uFld 1 5) (eVar 0)) (eVar 2)))) (eVar 2) [some (.ref 0), some (dLot xs), none] (xs.map D.int) [] S = .ok (.lst ((xs.filter fun e => (tAt ts e).isNone).map D.int)) S := by
    rw [goLc_enc D.int (fun e => (tAt ts e).isNone) D.int xs [] (fun x hxx => ⟨_, by simp [wipeE]; rfl, ?_, fun _ => by simp⟩) (by simp; omega)]
    · rfl
    · have := hx x hxx
      have hb := bIx_tsR S 1 ts h.t x this.1 this.2
      simp [h.f 5 (d := .ref 1) rfl, hb]
  simp only [m_Audit_left, envOf]
  simp only [dLot] at c1 ⊢
  simp [c1]
end
end K97
end

section
set_option Elab.async false
set_option linter.all false
set_option maxRecDepth 100000
set_option maxHeartbeats 4000000
/-! P12: an entry taken. By an AI agent. -/
namespace G
theorem uFld_app {S : Store} {v c k : Nat} {fs : List (Nat × D)} {d : D} (h : S[v]? = some (.ins c fs)) (hk : fget k fs = some d) (U : Store) : uFld c k (S ++ U) (.ref v) = some d := by
  refine uFld_ref k (fs := fs) ?_ hk
  rw [List.getElem?_append_left (List.getElem?_eq_some_iff.mp h).1]; exact h
theorem Au.fa {S : Store} {n : Nt} {k : Int} {ts : List (Option Int)} (h : Au S n k ts) (U : Store) (j : Nat) {d : D} (hj : fget j (auF n k) = some d) : uFld 1 j (S ++ U) (.ref 0) = some d := uFld_app h.i hj U
@[simp] theorem eLcS_ev (own : List Nat) (p : Pat) (a : EM) (t : TM) (elt : EM) (env : Env) (S : Store) : eLcS own p a t elt env S = (a env S).bnd fun x S1 => match x with
  | .ref n => match S1[n]? with
    | some (.lst xs) => goLcS own p t elt env (srcL n) (xs.length + 1) 0 [] S1
    | _ => .stuck
  | _ => .stuck := rfl
@[simp] theorem fAll_bls {α : Type} (S : Store) (f : α → Bool) (xs : List α) : fAll S [.lst (xs.map fun x => D.bl (f x))] = some (.bl (xs.all f)) := fAll_map S f xs
end G
namespace K97
open G
theorem au_can_end {S : Store} {n : Nt} {k : Int} {ts : List (Option Int)} (w : WN n) (hl : (ts.length : Int) = n.many) (h : Au S n k ts) (m : Int) (c : List Int) (hc : c.length < 1000) :
    fm_Audit_can_end [.ref 0, .int m, dLot c] S = .ok (.bl (c.all (fun x => decide (x ∈ canX n ts m)) && (mustX n ts m).all fun x => decide (x ∈ c))) (S ++ [.lst ((canX n ts m).map D.int), .lst ((mustX n ts m).map D.int)]) := by
  refine fnR_as rfl ?_
  have hw := w.ll
  have f7 := fun U => h.fa U 7 (d := dN n) rfl
  have f5 := fun U => h.fa U 5 (d := .ref 1) rfl
  let P : Nat → List Int × List Int → Env → Store → Prop := fun i s env S' => (∃ o1 o2 o3 o4, env = [some (.ref 0), some (.int m), some (dLot c), some (.ref S.length), some (.ref (S.length + 1)), o1, o2, o3, o4, none]) ∧ S' = S ++ [.lst (s.1.map D.int), .lst (s.2.map D.int)] ∧ s.1.length ≤ i ∧ s.2.length ≤ i
  obtain ⟨env', S', g1, ⟨o1, o2, o3, o4, g2⟩, g3, g4, g5⟩ := goFor_fold (p := .tp [.nm 5, .nm 6, .nm 7, .nm 8]) (body := sIf (G.tAnd (tV (eUn uIsN (eBin bIx (eUn (uFld 1 5) (eVar 0)) (eVar 8)))) (G.tAnd (tV (eUn uNotN (eBin bIx (eUn (uFld 1 5) (eVar 0)) (eVar 5)))) (tV (eBin bGe (eBin bSub (eVar 1) (eBin bIx (eUn (uFld 1 5) (eVar 0)) (eVar 5))) (eVar 6))))) (sSeq (sExpr (eAppend (eVar 3) (eVar 8)))
    (sExpr (eExtend (eVar 4) (eIf (tV (eBin bGe (eBin bSub (eVar 1) (eBin bIx (eUn (uFld 1 5) (eVar 0)) (eVar 5))) (eVar 7))) (eLstZ (aCons (eVar 8) aNil)) (eLstZ aNil))))) sNil)
    dL (stA ts m) P n.ls 0 ([], []) [some (.ref 0), some (.int m), some (dLot c), some (.ref S.length), some (.ref (S.length + 1)), none, none, none, none, none] (S ++ [.lst [], .lst []]) ⟨⟨none, none, none, none, rfl⟩, rfl, Nat.le_refl _, Nat.le_refl _⟩ (by
      rintro j ⟨a, b⟩ env S' l hln hj1 hj2 ⟨⟨o1, o2, o3, o4, rfl⟩, rfl, ha, hb⟩
      simp only at ha hb
      obtain ⟨e1, e2, e3, e4, _⟩ := w.ev hln
      have tc : ∀ U, bIx (S ++ U) (.ref 1) (.int l.2.2.2) = some (dO (tAt ts l.2.2.2)) := fun U => bIx_app h.t U l.2.2.2 (by omega) (by omega)
      have ta : ∀ U, bIx (S ++ U) (.ref 1) (.int l.1) = some (dO (tAt ts l.1)) := fun U => bIx_app h.t U l.1 (by omega) (by omega)
      refine ⟨_, [some (.ref 0), some (.int m), some (dLot c), some (.ref S.length), some (.ref (S.length + 1)), some (.int l.1), some (.int l.2.1), some (.int l.2.2.1), some (.int l.2.2.2), none], S ++ [.lst ((stA ts m (a, b) l).1.map D.int), .lst ((stA ts m (a, b) l).2.map D.int)], by simp [dL]; rfl, ?_, ⟨_, _, _, _, rfl⟩, rfl, ?_⟩
      · cases h1 : tAt ts l.2.2.2 with
        | some t1 => simp [f5, tc, h1, stA, canA]
        | none =>
          cases h2 : tAt ts l.1 with
          | none => simp [f5, tc, ta, h1, h2, stA, canA]
          | some t =>
            by_cases h3 : l.2.1 ≤ m - t
            · have hp := pushL_at0 S (a.map D.int) (b.map D.int) [.int l.2.2.2] (by simp; omega)
              have hi0 := isL_at0 S (a.map D.int) (b.map D.int)
              have hi1 := isL_at1 S (a.map D.int ++ [.int l.2.2.2]) (b.map D.int)
              by_cases h4 : l.2.2.1 ≤ m - t
              · have hq := pushL_at1 S (a.map D.int ++ [.int l.2.2.2]) (b.map D.int) [.int l.2.2.2] (by simp; omega)
                simp [f5, tc, ta, h1, h2, dO, h3, h4, stA, canA, mustA, hp, hi0, hi1, hq]
              · have hq := pushL_at1 S (a.map D.int ++ [.int l.2.2.2]) (b.map D.int) [] (by simp; omega)
                simp [f5, tc, ta, h1, h2, dO, h3, h4, stA, canA, mustA, hp, hi0, hi1, hq]
            · simp [f5, tc, ta, h1, h2, dO, h3, stA, canA, mustA]
      · simp only [stA]
        split
        · cases mustA ts m l <;> simp <;> omega
        · simp; omega)
  rw [stA_fold] at g3
  simp only [List.nil_append] at g3
  have g3' : S' = S ++ [.lst ((canX n ts m).map D.int), .lst ((mustX n ts m).map D.int)] := g3
  subst g3'
  have g0 : ∀ r, iSeq (eBin bIx (eUn (uFld 1 7) (eVar 0)) (eC (.int 2))) (some (.ref 0) :: r) (S ++ [.lst [], .lst []]) = .ok (n.ls.map dL) (S ++ [.lst [], .lst []]) := fun r => by simp [f7, dN]
  have hcan : (canX n ts m).length ≤ 5 := by
    have := List.length_filter_le (fun l => canA ts m l) n.ls
    simp only [canX, List.length_map]; omega
  have hmust : (mustX n ts m).length ≤ 5 := by
    have := List.length_filter_le (fun l => canA ts m l && mustA ts m l) n.ls
    simp only [mustX, List.length_map]; omega
  have k0 : (S ++ [SO.lst ((canX n ts m).map D.int), .lst ((mustX n ts m).map D.int)])[S.length]? = some (.lst ((canX n ts m).map D.int)) := by simp
  have k1 : (S ++ [SO.lst ((canX n ts m).map D.int), .lst ((mustX n ts m).map D.int)])[S.length + 1]? = some (.lst ((mustX n ts m).map D.int)) := by simp
  have c1 : goLc [9] (.nm 9) G.tYes (eBin bInD (eVar 9) (eVar 3)) env' (c.map D.int) [] (S ++ [.lst ((canX n ts m).map D.int), .lst ((mustX n ts m).map D.int)]) = .ok (.lst (c.map fun x => .bl (decide (x ∈ canX n ts m)))) (S ++ [.lst ((canX n ts m).map D.int), .lst ((mustX n ts m).map D.int)]) := by
    subst g2
    refine goLc_all D.int _ _ (fun x hx => ⟨_, by simp [wipeE]; rfl, ?_⟩) (by omega)
    have := bInD_ref _ _ x _ k0
    simp [this]
  have c2 : goLcS [9] (.nm 9) G.tYes (eBin bInD (eVar 9) (eVar 2)) env' (srcL (S.length + 1)) ((mustX n ts m).length + 1) 0 [] (S ++ [.lst ((canX n ts m).map D.int), .lst ((mustX n ts m).map D.int)]) = .ok (.lst ((mustX n ts m).map fun x => .bl (decide (x ∈ c)))) (S ++ [.lst ((canX n ts m).map D.int), .lst ((mustX n ts m).map D.int)]) := by
    subst g2
    rw [goLcS_all D.int (fun x => .bl (decide (x ∈ c))) (mustX n ts m) k1 (mustX n ts m).length 0 [] (by omega) (fun x hx => ⟨_, by simp [wipeE]; rfl, ?_⟩) (by simp; omega)]
    · simp
    · simp [bInD_lot]
  have v2 : iSeq (eVar 2) env' (S ++ [.lst ((canX n ts m).map D.int), .lst ((mustX n ts m).map D.int)]) = .ok (c.map D.int) (S ++ [.lst ((canX n ts m).map D.int), .lst ((mustX n ts m).map D.int)]) := by rw [g2]; simp [dLot]
  have v4 : eVar 4 env' (S ++ [.lst ((canX n ts m).map D.int), .lst ((mustX n ts m).map D.int)]) = .ok (.ref (S.length + 1)) (S ++ [.lst ((canX n ts m).map D.int), .lst ((mustX n ts m).map D.int)]) := by rw [g2]; simp
  have a2 := fAll_map (S ++ [.lst ((canX n ts m).map D.int), .lst ((mustX n ts m).map D.int)]) (fun x => decide (x ∈ c)) (mustX n ts m)
  have a1 := fAll_map (S ++ [.lst ((canX n ts m).map D.int), .lst ((mustX n ts m).map D.int)]) (fun x => decide (x ∈ canX n ts m)) c
  simp only [m_Audit_can_end, envOf]
  simp [-iSeq_ev, g0, g1]
  simp [-iSeq_ev, v2, c1, v4, k1, c2, a1, a2]
  cases hh : c.all (fun x => decide (x ∈ canX n ts m)) <;> simp [hh]
end K97
end

section
set_option Elab.async false
set_option linter.all false
set_option maxRecDepth 100000
set_option maxHeartbeats 4000000
/-! P13: journals audited. By an AI agent. -/
namespace G
structure VE (n : Nt) (ts : List (Option Int)) (k : Int) (c o : List Int) : Prop where
  op : ts.any Option.isNone = true
  c1 : c.all (inR 0 (n.many - 1)) = true
  c2 : rise (fun x y => decide (x < y)) c = true
  o1 : o.all (inR 0 (n.many - 1)) = true
  o2 : rise (fun x y => decide (x < y)) o = true
  ce : ∀ x ∈ c, x ∈ endsL n ∧ (tAt ts x).isNone = true
  ol : ∀ x ∈ o, x ∈ leftL n ts
  can : ∀ x ∈ c, x ∈ canX n ts k
  must : ∀ x ∈ mustX n ts k, x ∈ c
  lc : c.length < 500
  le : (k = 0 ∧ c = []) ∨ (0 < k ∧ c ∈ endsAt n ts k)
  lo : o.length < 500
def apE (ts : List (Option Int)) (k : Int) (c o : List Int) : List (Option Int) := wc (wc ts c k) o k
theorem ts_ext {a b : List (Option Int)} (hl : a.length = b.length) (h : ∀ e : Int, 0 ≤ e → e < a.length → tAt a e = tAt b e) : a = b := by
  refine List.ext_getElem hl fun i h1 h2 => ?_
  have := h i (by omega) (by omega)
  simp only [tAt, Int.toNat_natCast, List.getElem?_eq_getElem h1, List.getElem?_eq_getElem h2, Option.getD_some] at this
  exact this
def stS (ts : List (Option Int)) (m : Int) (l : List Int) : List (Option Int) := l.foldl (fun t e => t.set e.toNat (some m)) ts
theorem stS_len (m : Int) : ∀ (l : List Int) (ts : List (Option Int)), (stS ts m l).length = ts.length
  | [], ts => rfl
  | e :: l, ts => by
    show (stS (ts.set e.toNat (some m)) m l).length = _
    rw [stS_len m l]; simp
theorem tAt_set (ts : List (Option Int)) (m x e : Int) (hx : 0 ≤ x) (h0 : 0 ≤ e) (h1 : e < ts.length) : tAt (ts.set x.toNat (some m)) e = if e = x then some m else tAt ts e := by
  unfold tAt
  by_cases h : e = x
  · subst h
    rw [List.getElem?_set_self (by omega)]; simp
  · rw [List.getElem?_set_ne (by omega)]; simp [h]
theorem tAt_stS (m : Int) : ∀ (l : List Int) (ts : List (Option Int)), (∀ x ∈ l, 0 ≤ x) → ∀ e : Int, 0 ≤ e → e < ts.length → tAt (stS ts m l) e = if e ∈ l then some m else tAt ts e
  | [], ts, _, e, h0, h1 => by simp [stS]
  | x :: l, ts, hx, e, h0, h1 => by
    show tAt (stS (ts.set x.toNat (some m)) m l) e = _
    rw [tAt_stS m l _ (fun y hy => hx y (List.mem_cons_of_mem _ hy)) e h0 (by simp; omega), tAt_set ts m x e (hx x List.mem_cons_self) h0 h1]
    by_cases h1 : e ∈ l <;> by_cases h2 : e = x <;> simp [h1, h2]
theorem stS_apE (ts : List (Option Int)) (m : Int) (c o : List Int) (hc : ∀ x ∈ c, 0 ≤ x) (ho : ∀ x ∈ o, 0 ≤ x) : stS ts m (c ++ o) = apE ts m c o := by
  refine ts_ext (by rw [stS_len, apE, wc_len, wc_len]) fun e h0 h1 => ?_
  rw [stS_len] at h1
  rw [tAt_stS m _ _ (fun x hx => (List.mem_append.mp hx).elim (hc x) (ho x)) e h0 h1, apE, tAt_wc _ _ _ _ h0 (by rw [wc_len]; exact h1), tAt_wc _ _ _ _ h0 h1]
  by_cases h1 : e ∈ c <;> by_cases h2 : e ∈ o <;> simp [h1, h2]
theorem apE_len (ts : List (Option Int)) (m : Int) (c o : List Int) : (apE ts m c o).length = ts.length := by rw [apE, wc_len, wc_len]
def encE (k : Nat) (x : List Int × List Int) : D := .tup [.int k, dLot x.1, dLot x.2]
theorem lot_ge {l : List Int} {m : Int} (h : l.all (inR 0 m) = true) : ∀ x ∈ l, 0 ≤ x ∧ x ≤ m := fun x hx => inR_iff.mp (List.all_eq_true.mp h x hx)
theorem endsL_ev {n : Nt} (w : WN n) {x : Int} (h : x ∈ endsL n) : 1 ≤ x ∧ x < n.many := by
  obtain ⟨l, h1, rfl⟩ := List.mem_map.mp (mem_srtI.mp h)
  have := w.ev h1
  omega
theorem oursL_ev {n : Nt} {x : Int} (h : x ∈ oursL n) : 1 ≤ x ∧ x < n.many := mem_rgIJ.mp (List.mem_filter.mp h).1
theorem endsL_len {n : Nt} (w : WN n) : (endsL n).length ≤ 5 := by
  rw [endsL, srtI, sortG_len, List.length_map]; exact w.ll
theorem oursL_len {n : Nt} (w : WN n) : (oursL n).length ≤ 15 := by
  have := List.length_filter_le (fun e => !decide (e ∈ endsL n)) (rgIJ 1 n.many)
  rw [rgIJ_len] at this
  have := inR_iff.mp w.many
  simp only [oursL]
  omega
def BadE (ts : List (Option Int)) (k : Nat) (d : D) : Prop := ts.any Option.isNone = false ∨ d = .non ∨ (∃ m c o, d = .tup [.int m, dLot c, dLot o] ∧ m ≠ (k : Int)) ∨ d = .tup [.int 0, dLot [0], dLot []]
end G
namespace K97
open G
theorem au_takes {S : Store} {n : Nt} {k0 : Int} {ts : List (Option Int)} (w : WN n) (hl : (ts.length : Int) = n.many) (h : Au S n k0 ts) (k : Nat) (c o : List Int) (v : VE n ts k c o) :
    ∃ S', fm_Audit_takes [.ref 0, encE k (c, o), .int k] S = .ok (.bl true) S' ∧ Au S' n k (apE ts k c o) := by
  have hm := inR_iff.mp w.many
  have f7 := h.f 7 (d := dN n) rfl
  have f7' := fun U => h.fa U 7 (d := dN n) rfl
  have lE := au_left h (endsL n) (fun e he => by have := endsL_ev w he; omega) (by have := endsL_len w; omega)
  have lO := au_left h (oursL n) (fun e he => by have := oursL_ev he; omega) (by have := oursL_len w; omega)
  have ov := au_over h
  rw [v.op] at ov
  have ce := au_can_end w hl h k c (by have := v.lc; omega)
  have cev : (c.all (fun x => decide (x ∈ canX n ts k)) && (mustX n ts k).all fun x => decide (x ∈ c)) = true := by
    simp only [Bool.and_eq_true, List.all_eq_true, decide_eq_true_eq]
    exact ⟨v.can, v.must⟩
  rw [cev] at ce
  -- the store behind can_end
  have hA : Au (S ++ [.lst ((canX n ts k).map D.int), .lst ((mustX n ts k).map D.int)]) n k0 ts := h.app _
  have h0 := (List.getElem?_eq_some_iff.mp h.t).1
  generalize hS1 : S ++ [SO.lst ((canX n ts k).map D.int), .lst ((mustX n ts k).map D.int)] = S1 at ce hA
  have hS1l : 1 < S1.length := by rw [← hS1]; simp
  have hB : Au (S1.set 0 (.ins 1 (auF n k))) n k ts := ⟨by rw [List.getElem?_set_self (by omega)], by rw [List.getElem?_set_ne (by omega)]; exact hA.t⟩
  have c1 := lot_ge v.c1
  have o1 := lot_ge v.o1
  obtain ⟨env', S', g1, ⟨o', g2⟩, g3⟩ := goFor_fold (p := .nm 4) (body := sSetT (.sub (eUn (uFld 1 5) (eVar 0)) (eVar 4)) (eVar 2)) D.int (fun t e => t.set e.toNat (some (k : Int)))
    (fun i s env S' => (∃ o', env = [some (.ref 0), some (encE k (c, o)), some (.int k), some (.int n.many), o', some (.lst (((endsL n).filter fun e => (tAt ts e).isNone).map D.int)), some (.lst (((oursL n).filter fun e => (tAt ts e).isNone).map D.int)), none]) ∧ s.length = ts.length ∧ Au S' n k s) (c ++ o) 0 ts
    [some (.ref 0), some (encE k (c, o)), some (.int k), some (.int n.many), none, some (.lst (((endsL n).filter fun e => (tAt ts e).isNone).map D.int)), some (.lst (((oursL n).filter fun e => (tAt ts e).isNone).map D.int)), none] (S1.set 0 (.ins 1 (auF n k))) ⟨⟨none, rfl⟩, rfl, hB⟩ (by
      rintro j s env S' x hx hj1 hj2 ⟨⟨o', rfl⟩, hs, hA'⟩
      have hx2 : 0 ≤ x ∧ x < ts.length := by
        rcases List.mem_append.mp hx with hx | hx
        · have := c1 x hx; omega
        · have := o1 x hx; omega
      have f5 := hA'.f 5 (d := .ref 1) rfl
      have hi : ixN s.length x = some x.toNat := by
        unfold ixN; rw [if_pos hx2.1, if_pos (by omega)]
      have ht1 := (List.getElem?_eq_some_iff.mp hA'.t).1
      have hset : setAt S' (.ref 1) (.int x) (.int k) = some (S'.set 1 (.lst ((s.set x.toNat (some (k : Int))).map dO))) := by
        simp only [setAt, hA'.t, List.length_map, hi, Option.map_some]
        rw [List.map_set]
        rfl
      refine ⟨_, [some (.ref 0), some (encE k (c, o)), some (.int k), some (.int n.many), some (.int x), some (.lst (((endsL n).filter fun e => (tAt ts e).isNone).map D.int)), some (.lst (((oursL n).filter fun e => (tAt ts e).isNone).map D.int)), none], S'.set 1 (.lst ((s.set x.toNat (some (k : Int))).map dO)), by simp; rfl, ?_, ⟨_, rfl⟩, by simp [hs], ?_⟩
      · simp [sSetT, setT, f5, hset]
      · exact ⟨by rw [List.getElem?_set_ne (by omega)]; exact hA'.i, by rw [List.getElem?_set_self ht1]⟩)
  have g3' : Au S' n k (stS ts k (c ++ o)) := g3.2
  rw [stS_apE ts k c o (fun x hx => (c1 x hx).1) (fun x hx => (o1 x hx).1)] at g3'
  refine ⟨S', ?_, g3'⟩
  refine fnR_as rfl ?_
  have en : encE k (c, o) ≠ .err := fun z => nomatch z
  have eb : ∀ S, bIx S (encE k (c, o)) (.int 0) = some (.int k) := fun S => by simp [encE]
  have eb1 : ∀ S, bIx S (encE k (c, o)) (.int 1) = some (dLot c) := fun S => by simp [encE]
  have eb2 : ∀ S, bIx S (encE k (c, o)) (.int 2) = some (dLot o) := fun S => by simp [encE]
  have b0 : ∀ S, bIx S (dN n) (.int 0) = some (.int n.many) := fun S => by simp [dN]
  have sz : ∀ S, fm_is_sized [encE k (c, o), .int 3, .int 3] S = .ok (.bl true) S := fun S => is_sized_t [.int k, dLot c, dLot o] (by simp) 3 3 S
  have wi : ∀ S, fm_is_within [.int k, .int k, .int k] S = .ok (.bl true) S := fun S => by rw [is_within_i]; simp [inR]
  have l1 : ∀ S, fm_is_lot [dLot c, .int n.many] S = .ok (.bl true) S := fun S => by rw [is_lot_i c n.many (by have := v.lc; omega), v.c1, v.c2]; rfl
  have l2 : ∀ S, fm_is_lot [dLot o, .int n.many] S = .ok (.bl true) S := fun S => by rw [is_lot_i o n.many (by have := v.lo; omega), v.o1, v.o2]; rfl
  have rE := raw_ends_w n w
  have rO := raw_ours_w n w
  generalize hEL : ((endsL n).filter fun e => (tAt ts e).isNone) = EL at *
  generalize hOL : ((oursL n).filter fun e => (tAt ts e).isNone) = OL at *
  have q1 : goLc [7] (.nm 7) G.tYes (eBin bInD (eVar 7) (eVar 5)) [some (.ref 0), some (encE k (c, o)), some (.int k), some (.int n.many), none, some (.lst (EL.map D.int)), some (.lst (OL.map D.int)), none] (c.map D.int) [] S = .ok (.lst (c.map fun _ => .bl true)) S := by
    refine goLc_all D.int _ c (fun x hx => ⟨_, by simp [wipeE]; rfl, ?_⟩) (by have := v.lc; omega)
    have h1 := bInD_lst S x EL
    have h2 : x ∈ EL := by rw [← hEL]; exact List.mem_filter.mpr (v.ce x hx)
    simp [h1, h2]
  have q2 : goLc [4] (.nm 4) G.tYes (eBin bInD (eVar 4) (eVar 6)) [some (.ref 0), some (encE k (c, o)), some (.int k), some (.int n.many), none, some (.lst (EL.map D.int)), some (.lst (OL.map D.int)), none] (o.map D.int) [] S = .ok (.lst (o.map fun _ => .bl true)) S := by
    refine goLc_all D.int _ o (fun x hx => ⟨_, by simp [wipeE]; rfl, ?_⟩) (by have := v.lo; omega)
    have h1 := bInD_lst S x OL
    have h2 : x ∈ OL := by rw [← hOL]; exact v.ol x hx
    simp [h1, h2]
  have a1 : fAll S [.lst (c.map fun _ => D.bl true)] = some (.bl true) := by
    rw [fAll_map S (fun _ => true) c]; simp
  have a2 : fAll S [.lst (o.map fun _ => D.bl true)] = some (.bl true) := by
    rw [fAll_map S (fun _ => true) o]; simp
  have i1 : ∀ r x S, iSeq (eBin bIx (eVar 1) (eC (.int 1))) (x :: some (encE k (c, o)) :: r) S = .ok (c.map D.int) S := fun r x S => by simp [en, eb1, dLot]
  have i2 : ∀ r x S, iSeq (eBin bIx (eVar 1) (eC (.int 2))) (x :: some (encE k (c, o)) :: r) S = .ok (o.map D.int) S := fun r x S => by simp [en, eb2, dLot]
  have i3 : ∀ r x S, iSeq (eBin bAdd (eBin bIx (eVar 1) (eC (.int 1))) (eBin bIx (eVar 1) (eC (.int 2)))) (x :: some (encE k (c, o)) :: r) S = .ok ((c ++ o).map D.int) S := fun r x S => by
    have := bAdd_lot S c o (by have := v.lo; have := v.lc; omega)
    simp [en, eb1, eb2, this]
    simp [dLot]
  have st6 : setT (.fld (eVar 0) 1 6) (.int k) [some (.ref 0), some (encE k (c, o)), some (.int k), some (.int n.many), none, some (.lst (EL.map D.int)), some (.lst (OL.map D.int)), none] S1 = some ([some (.ref 0), some (encE k (c, o)), some (.int k), some (.int n.many), none, some (.lst (EL.map D.int)), some (.lst (OL.map D.int)), none], S1.set 0 (.ins 1 (auF n k))) := by
    simp [setT, hA.i, auF, fput, Nat.beq, Nat.blt, Nat.ble]
  simp only [m_Audit_takes, envOf]
  simp [-iSeq_ev, -List.map_append, f7, b0, h.i, okFs, ov, en, sz, eb, wi, eb1, eb2, l1, l2, rE, rO, lE, lO, i1, i2, q1, q2, a1, a2, ce, sSetT, st6, i3, g1]
end K97
end

section
set_option Elab.async false
set_option linter.all false
set_option maxRecDepth 100000
set_option maxHeartbeats 4000000
/-! P14: journals audited by the program. By an AI agent. -/
namespace G
def encJ : Nat → List (List Int × List Int) → List D
  | _, [] => []
  | k, x :: r => encE k x :: encJ (k + 1) r
theorem encJ_len : ∀ (js : List (List Int × List Int)) (k : Nat), (encJ k js).length = js.length
  | [], _ => rfl
  | x :: r, k => by simp [encJ, encJ_len r]
theorem encJ_nr : ∀ (js : List (List Int × List Int)) (k : Nat), nrL (encJ k js) = true
  | [], _ => by simp [encJ]
  | x :: r, k => by simp [encJ, encE, encJ_nr r]
theorem encJ_app : ∀ (js : List (List Int × List Int)) (k : Nat) (x : List Int × List Int), encJ k (js ++ [x]) = encJ k js ++ [encE (k + js.length) x]
  | [], k, x => by simp [encJ]
  | y :: r, k, x => by
    simp only [List.cons_append, encJ, encJ_app r (k + 1) x, List.length_cons]
    rw [show k + 1 + r.length = k + (r.length + 1) by omega]
def VJ (n : Nt) : List (Option Int) → Nat → List (List Int × List Int) → Prop
  | _, _, [] => True
  | ts, k, x :: r => VE n ts k x.1 x.2 ∧ VJ n (apE ts k x.1 x.2) (k + 1) r
def stJ : List (Option Int) → Nat → List (List Int × List Int) → List (Option Int)
  | ts, _, [] => ts
  | ts, k, x :: r => stJ (apE ts k x.1 x.2) (k + 1) r
def lastM (m : Int) : Nat → List (List Int × List Int) → Int
  | _, [] => m
  | k, _ :: r => lastM (k : Int) (k + 1) r
def audF (n : Nt) : List (Option Int) → Nat → List (List Int × List Int) → Option (Nat × Int)
  | _, _, [] => none
  | ts, k, x :: r => match brk n (apE ts k x.1 x.2) with
    | b :: _ => some (k, b)
    | [] => audF n (apE ts k x.1 x.2) (k + 1) r
theorem stJ_len : ∀ (js : List (List Int × List Int)) (k : Nat) (ts : List (Option Int)), (stJ ts k js).length = ts.length
  | [], _, _ => rfl
  | x :: r, k, ts => by rw [stJ, stJ_len r, apE_len]
theorem stJ_app : ∀ (js : List (List Int × List Int)) (k : Nat) (ts : List (Option Int)) (x : List Int × List Int), stJ ts k (js ++ [x]) = apE (stJ ts k js) (k + js.length : Nat) x.1 x.2
  | [], k, ts, x => rfl
  | y :: r, k, ts, x => by
    simp only [List.cons_append, stJ, stJ_app r, List.length_cons]
    rw [show k + 1 + r.length = k + (r.length + 1) by omega]
theorem VJ_app : ∀ (js : List (List Int × List Int)) (k : Nat) (ts : List (Option Int)) (x : List Int × List Int) (n : Nt), VJ n ts k js → VE n (stJ ts k js) (k + js.length : Nat) x.1 x.2 → VJ n ts k (js ++ [x])
  | [], k, ts, x, n, _, h => ⟨h, trivial⟩
  | y :: r, k, ts, x, n, h1, h2 => ⟨h1.1, VJ_app r (k + 1) _ x n h1.2 (by
    simp only [stJ, List.length_cons] at h2
    rw [show k + 1 + r.length = k + (r.length + 1) by omega]; exact h2)⟩
theorem lastM_app : ∀ (js : List (List Int × List Int)) (k : Nat) (m : Int) (x : List Int × List Int), lastM m k (js ++ [x]) = (k + js.length : Nat)
  | [], k, m, x => rfl
  | y :: r, k, m, x => by
    simp only [List.cons_append, lastM, lastM_app r, List.length_cons]
    rw [show k + 1 + r.length = k + (r.length + 1) by omega]
def dStr (l : List Nat) : D := .str l
def sOver : D := .str [111, 118, 101, 114]
def sRight : D := .str [114, 105, 103, 104, 116]
def sWrong : D := .str [119, 114, 111, 110, 103]
def sBroken : D := .str [98, 114, 111, 107, 101, 110]
/-- what an audit says -/
def resD (n : Nt) (ts : List (Option Int)) (js : List (List Int × List Int)) (bad : Bool) : D := match audF n ts 0 js with
  | some (i, b) => .tup [sBroken, .int i, .int b]
  | none => if bad then .tup [sWrong, .int js.length] else if (stJ ts 0 js).any Option.isNone then .tup [sRight, dTs (stJ ts 0 js)] else .tup [sOver, dTs (stJ ts 0 js)]
theorem ts0_some (many : Int) : tAt (ts0 many) 0 = some 0 := by simp [ts0, tAt]
end G
namespace K97
open G
theorem au_takes_bad {S : Store} {n : Nt} {k0 : Int} {ts : List (Option Int)} (w : WN n) (hl : (ts.length : Int) = n.many) (h : Au S n k0 ts) (k : Nat) (d : D) (b : BadE ts k d) (hd : d.nr = true) (hd2 : d ≠ .err) :
    fm_Audit_takes [.ref 0, d, .int k] S = .ok (.bl false) S := by
  have hm := inR_iff.mp w.many
  refine fnR_as rfl ?_
  have f7 := h.f 7 (d := dN n) rfl
  have ov := au_over h
  have b0 : ∀ S, bIx S (dN n) (.int 0) = some (.int n.many) := fun S => by simp [dN]
  simp only [m_Audit_takes, envOf]
  cases ho : ts.any Option.isNone with
  | false =>
    rw [ho] at ov
    simp [f7, b0, h.i, okFs, ov, hd2]
  | true =>
    rw [ho] at ov
    rcases b with b | rfl | ⟨m, c, o, rfl, hmk⟩ | rfl
    · rw [ho] at b; cases b
    · simp [f7, b0, h.i, okFs, ov, is_sized_n]
    · have sz : ∀ S, fm_is_sized [.tup [.int m, dLot c, dLot o], .int 3, .int 3] S = .ok (.bl true) S := fun S => is_sized_t [.int m, dLot c, dLot o] (by simp) 3 3 S
      have wi : ∀ S, fm_is_within [.int m, .int k, .int k] S = .ok (.bl false) S := fun S => by
        rw [is_within_i]
        have : inR (k : Int) k m = false := by
          cases hh : inR (k : Int) k m with
          | false => rfl
          | true => have := inR_iff.mp hh; omega
        rw [this]
      simp [f7, b0, h.i, okFs, ov, sz, wi]
    · have sz : ∀ S, fm_is_sized [.tup [.int 0, dLot [0], dLot []], .int 3, .int 3] S = .ok (.bl true) S := fun S => is_sized_t [.int 0, dLot [0], dLot []] (by simp) 3 3 S
      by_cases hk : k = 0
      · subst hk
        have wi : ∀ S, fm_is_within [.int 0, .int 0, .int 0] S = .ok (.bl true) S := fun S => by rw [is_within_i]; simp [inR]
        have l1 : ∀ S, fm_is_lot [dLot [0], .int n.many] S = .ok (.bl true) S := fun S => by
          rw [is_lot_i [0] n.many (by simp)]
          have : ([0] : List Int).all (inR 0 (n.many - 1)) = true := by simp [inR]; omega
          rw [this]; rfl
        have l2 : ∀ S, fm_is_lot [dLot [], .int n.many] S = .ok (.bl true) S := fun S => by rw [is_lot_i [] n.many (by simp)]; rfl
        have lE := au_left h (endsL n) (fun e he => by have := endsL_ev w he; omega) (by have := endsL_len w; omega)
        have lO := au_left h (oursL n) (fun e he => by have := oursL_ev he; omega) (by have := oursL_len w; omega)
        have rE := raw_ends_w n w
        have rO := raw_ours_w n w
        have nz : (0 : Int) ∉ (endsL n).filter fun e => (tAt ts e).isNone := fun z => by
          have := endsL_ev w (List.mem_filter.mp z).1
          omega
        generalize ((endsL n).filter fun e => (tAt ts e).isNone) = EL at *
        generalize ((oursL n).filter fun e => (tAt ts e).isNone) = OL at *
        have q1 : ∀ (env : Env), env = [some (.ref 0), some (.tup [.int 0, dLot [0], dLot []]), some (.int 0), some (.int n.many), none, some (.lst (EL.map D.int)), some (.lst (OL.map D.int)), none] → goLc [7] (.nm 7) G.tYes (eBin bInD (eVar 7) (eVar 5)) env ([0].map D.int) [] S = .ok (.lst ([(0 : Int)].map fun x => .bl (decide (x ∈ EL)))) S := fun env he => by
          subst he
          refine goLc_all D.int _ [0] (fun x hx => ⟨_, by simp [wipeE]; rfl, ?_⟩) (by simp)
          have h1 := bInD_lst S x EL
          simp [h1]
        have q1' := q1 _ rfl
        have a1 : fAll S [.lst ([(0 : Int)].map fun x => D.bl (decide (x ∈ EL)))] = some (.bl false) := by
          rw [fAll_map S (fun x => decide (x ∈ EL)) [0]]; simp [nz]
        have i1 : ∀ r x S, iSeq (eBin bIx (eVar 1) (eC (.int 1))) (x :: some (.tup [.int 0, dLot [0], dLot []]) :: r) S = .ok ([0].map D.int) S := fun r x S => by simp [dLot]
        simp only [List.map_cons, List.map_nil] at q1' a1 i1
        simp [-iSeq_ev, f7, b0, h.i, okFs, ov, sz, wi, l1, l2, rE, rO, lE, lO, i1, q1', a1]
      · have wi : ∀ S, fm_is_within [.int 0, .int k, .int k] S = .ok (.bl false) S := fun S => by
          rw [is_within_i]
          have : inR (k : Int) k 0 = false := by
            cases hh : inR (k : Int) k 0 with
            | false => rfl
            | true => have := inR_iff.mp hh; omega
          rw [this]
        simp [f7, b0, h.i, okFs, ov, sz, wi]
theorem aud_loop {n : Nt} (w : WN n) (scr : D) (hs : scr ≠ .err) : ∀ (js : List (List Int × List Int)) (k : Nat) (m : Int) (ts : List (Option Int)) (S : Store) (tail : List D) (o3 o4 o5 : Option D), (ts.length : Int) = n.many → Au S n m ts → VJ n ts k js →
    ∀ body : SM, body = (sSeq (sIf (tNot ((tTr ((eMeth [] 1 fm_Audit_takes (eVar 2) (aCons (eVar 4) (aCons (eVar 3) aNil))))))) (sRet ((eTupZ (aCons ((eTupZ (aCons (eC (.str [119, 114, 111, 110, 103])) (aCons (eVar 3) aNil)))) (aCons (eVar 2) aNil))))) sNil)
    (sSeq (sSet (.nm 5) ((eCall fm_raw_broken (aCons (eVar 0) (aCons ((eUn (uFld 1 5) (eVar 2))) aNil)))))
    (sIf (tV (eBin bGt ((eBuilt fLen (aCons (eVar 5) aNil))) (eC (.int 0)))) (sRet ((eTupZ (aCons ((eTupZ (aCons (eC (.str [98, 114, 111, 107, 101, 110])) (aCons (eVar 3) (aCons ((eBin bIx (eVar 5) (eC (.int 0)))) aNil))))) (aCons (eVar 2) aNil))))) sNil))) →
    (∃ i b S', audF n ts k js = some (i, b) ∧ goFor (.tp [.nm 3, .nm 4]) body (enumD k (encJ k js ++ tail)) [some (dN n), some scr, some (.ref 0), o3, o4, o5] S = .rt (.tup [.tup [sBroken, .int i, .int b], .ref 0]) S') ∨
    (audF n ts k js = none ∧ ∃ o3' o4' o5' S', goFor (.tp [.nm 3, .nm 4]) body (enumD k (encJ k js ++ tail)) [some (dN n), some scr, some (.ref 0), o3, o4, o5] S = goFor (.tp [.nm 3, .nm 4]) body (enumD (k + js.length) tail) [some (dN n), some scr, some (.ref 0), o3', o4', o5'] S' ∧ Au S' n (lastM m k js) (stJ ts k js))
  | [], k, m, ts, S, tail, o3, o4, o5, hl, h, _ => fun body hb => .inr ⟨rfl, o3, o4, o5, S, rfl, h⟩
  | (c, o) :: r, k, m, ts, S, tail, o3, o4, o5, hl, h, hv => fun body hb => by
    obtain ⟨S1, t1, h1⟩ := au_takes w hl h k c o hv.1
    have hl1 : ((apE ts k c o).length : Int) = n.many := by rw [apE_len]; exact hl
    have rb := raw_broken_w n w (apE ts k c o) hl1 1 S1 h1.t
    have f5 := h1.f 5 (d := .ref 1) rfl
    have en : encE k (c, o) ≠ .err := fun z => nomatch z
    have h2 := h1.app [.lst ((brk n (apE ts k c o)).map D.int)]
    have step : goFor (.tp [.nm 3, .nm 4]) body (enumD k (encJ k ((c, o) :: r) ++ tail)) [some (dN n), some scr, some (.ref 0), o3, o4, o5] S = match body [some (dN n), some scr, some (.ref 0), some (.int k), some (encE k (c, o)), o5] S with
        | .nx e1 S1 => goFor (.tp [.nm 3, .nm 4]) body (enumD (k + 1) (encJ (k + 1) r ++ tail)) e1 S1
        | .ct e1 S1 => goFor (.tp [.nm 3, .nm 4]) body (enumD (k + 1) (encJ (k + 1) r ++ tail)) e1 S1
        | .bk e1 S1 => .nx e1 S1
        | o => o := by
      simp only [encJ, List.cons_append, enumD, goFor]
      simp
      try rfl
    rw [step]
    cases hb2 : brk n (apE ts k c o) with
    | cons b q =>
      rw [hb2] at rb
      refine .inl ⟨k, b, S1 ++ [.lst ((b :: q).map D.int)], ?_, ?_⟩
      · simp only [audF, hb2]
      · subst hb
        simp [h.i, okFs, en, t1, f5, rb, sBroken]
    | nil =>
      rw [hb2] at rb h2
      have bq : body [some (dN n), some scr, some (.ref 0), some (.int k), some (encE k (c, o)), o5] S = .nx [some (dN n), some scr, some (.ref 0), some (.int k), some (encE k (c, o)), some (.tup [])] (S1 ++ [.lst []]) := by
        subst hb
        simp [h.i, okFs, en, t1, f5, rb]
      rw [bq]
      have ih := aud_loop w scr hs r (k + 1) k (apE ts k c o) (S1 ++ [.lst []]) tail (some (.int k)) (some (encE k (c, o))) (some (.tup [])) hl1 h2 hv.2 body hb
      rcases ih with ⟨i, b, S', e1, e2⟩ | ⟨e1, o3', o4', o5', S', e2, e3⟩
      · refine .inl ⟨i, b, S', ?_, e2⟩
        simp only [audF, hb2]; exact e1
      · refine .inr ⟨?_, o3', o4', o5', S', ?_, e3⟩
        · simp only [audF, hb2]; exact e1
        · rw [show k + ((c, o) :: r).length = k + 1 + r.length by simp; omega]
          exact e2
end K97
end

section
set_option Elab.async false
set_option linter.all false
set_option maxRecDepth 100000
set_option maxHeartbeats 4000000
/-! P15: what the program says of a journal. By an AI agent. -/
namespace G
theorem ts0_add (S : Store) (many : Int) (h1 : 1 ≤ many) (h2 : many ≤ 16) : ∃ d, bMul S (.lst [.non]) (.int (many - 1)) = some d ∧ d ≠ .err ∧ bAdd S (.lst [.int 0]) d = some (.lst ((ts0 many).map dO)) := by
  have hz : D.lst ((noneL many).map dO) ≠ .err := fun z => by cases z
  refine ⟨.lst ((noneL many).map dO), ?_, hz, ?_⟩
  · simp only [bMul, rd_lstE]
    rw [if_pos (by simp; omega)]
    simp [repL, noneL, dO]
  · rw [bAdd_ll _ _ _ (by simp [noneL]; omega)]
    rfl
def mx (a b : Int) : Int := if b > a then b else a
/-- right as far as it goes -/
def goodR (n : Nt) (ts : List (Option Int)) (js : List (List Int × List Int)) (bad : Bool) : Bool := (audF n ts 0 js).isNone && !bad
theorem nr_res (n : Nt) (ts : List (Option Int)) (js : List (List Int × List Int)) (b : Bool) : (resD n ts js b).nr = true := by
  unfold resD
  split
  · simp [sBroken]
  · split
    · simp [sWrong]
    · split <;> simp [sRight, sOver]
def headD (d : D) : D := match d with
  | .tup (x :: _) => x
  | _ => .non
theorem bIx_res (S : Store) (n : Nt) (ts : List (Option Int)) (js : List (List Int × List Int)) (b : Bool) : ∃ x, (x = sOver ∨ x = sRight ∨ x = sWrong ∨ x = sBroken) ∧ bIx S (resD n ts js b) (.int 0) = some x ∧ bInD S x (.tup [sOver, sRight]) = some (.bl (goodR n ts js b)) ∧ bInD S x (.tup [sRight, sOver]) = some (.bl (goodR n ts js b)) ∧ bNotIn S x (.tup [sOver, sRight]) = some (.bl (!goodR n ts js b)) ∧ bInD S x (.tup [sWrong, sBroken]) = some (.bl (!goodR n ts js b)) := by
  unfold resD goodR
  cases h : audF n ts 0 js with
  | some p => exact ⟨sBroken, .inr (.inr (.inr rfl)), rfl, rfl, rfl, rfl, rfl⟩
  | none =>
    cases b with
    | true => exact ⟨sWrong, .inr (.inr (.inl rfl)), rfl, rfl, rfl, rfl, rfl⟩
    | false =>
      cases h2 : (stJ ts 0 js).any Option.isNone with
      | true => exact ⟨sRight, .inr (.inl rfl), rfl, rfl, rfl, rfl, rfl⟩
      | false => exact ⟨sOver, .inl rfl, rfl, rfl, rfl, rfl, rfl⟩
def seenP (ts : List (Option Int)) (m : Int) (l : La) : Int × Int := match tAt ts l.2.2.2 with
  | some t => match tAt ts l.1 with
    | some t0 => (t - t0, t - t0)
    | none => (0, 0)
  | none => match tAt ts l.1 with
    | some t0 => (mx l.2.1 (m + 1 - t0), l.2.2.1)
    | none => (l.2.1, l.2.2.1)
def dP (p : Int × Int) : D := .tup [.int p.1, .int p.2]
def Came (n : Nt) (ts : List (Option Int)) : Prop := ∀ l ∈ n.ls, ∀ t, tAt ts l.2.2.2 = some t → ∃ t0, tAt ts l.1 = some t0
@[simp] theorem fMax_i (S : Store) (a b : Int) : fMax S [.int a, .int b] = some (.int (mx a b)) := rfl
@[simp] theorem nrL_dPs (l : List (Int × Int)) : nrL (l.map dP) = true := nrL_map dP (fun x => by simp [dP]) l
end G
namespace K97
open G
theorem au_new (n : Nt) (w : WN n) (r : Env) : eMake 1 fm_Audit___init__ (aCons (eVar 0) aNil) (some (dN n) :: r) [] = .ok (.ref 0) [.ins 1 (auF n 0), .lst ((ts0 n.many).map dO)] := by
  have hm := inR_iff.mp w.many
  have b0 : ∀ S, bIx S (dN n) (.int 0) = some (.int n.many) := fun S => by simp [dN]
  obtain ⟨d, d1, d2, d3⟩ := ts0_add [.ins 1 [(7, dN n), (6, .int 0)]] n.many hm.1 hm.2
  have i0 : fm_Audit___init__ [.ref 0, dN n] [.ins 1 []] = .ok .non [.ins 1 (auF n 0), .lst ((ts0 n.many).map dO)] := by
    refine fnR_as rfl ?_
    simp only [m_Audit___init__, envOf]
    simp [sSetT, setT, setTs, fput, Nat.beq, Nat.blt, Nat.ble, b0, eBinT, d1, d3]
    rfl
  unfold eMake
  simp [i0]
theorem raw_audited_w (n : Nt) (w : WN n) (js : List (List Int × List Int)) (tail : List D) (hv : VJ n (ts0 n.many) 0 js) (ht : ∀ d r, tail = d :: r → BadE (stJ (ts0 n.many) 0 js) js.length d ∧ d.nr = true ∧ d ≠ .err) :
    ∃ S', fm_raw_audited [dN n, .tup (encJ 0 js ++ tail)] [] = .ok (.tup [resD n (ts0 n.many) js (!tail.isEmpty), .ref 0]) S' ∧ (goodR n (ts0 n.many) js (!tail.isEmpty) = true → Au S' n (lastM 0 0 js) (stJ (ts0 n.many) 0 js)) := by
  have hm := inR_iff.mp w.many
  have hl := ts0_len n.many hm.1
  have A0 : Au [SO.ins 1 (auF n 0), .lst ((ts0 n.many).map dO)] n 0 (ts0 n.many) := ⟨rfl, rfl⟩
  have lp := aud_loop w (.tup (encJ 0 js ++ tail)) (fun z => nomatch z) js 0 0 (ts0 n.many) [.ins 1 (auF n 0), .lst ((ts0 n.many).map dO)] tail none none none hl A0 hv _ rfl
  have un : ∀ r, eMake 1 fm_Audit___init__ (aCons (eVar 0) aNil) (some (dN n) :: r) [] = _ := fun r => au_new n w r
  rcases lp with ⟨i, b, S', e1, e2⟩ | ⟨e1, o3, o4, o5, S', e2, e3⟩
  · refine ⟨S', ?_, fun hg => ?_⟩
    · refine fnR_as rfl ?_
      simp only [m_raw_audited, envOf]
      simp [un, e2, resD, e1]
    · simp [goodR, e1] at hg
  · cases tail with
    | nil =>
      refine ⟨S', ?_, fun _ => e3⟩
      refine fnR_as rfl ?_
      have ov := au_over e3
      have f5 := e3.f 5 (d := .ref 1) rfl
      have ft := fTuple_ref S' 1 _ e3.t
      simp only [goFor, enumD] at e2
      simp only [List.append_nil] at e2 ⊢
      simp only [m_raw_audited, envOf]
      cases hh : (stJ (ts0 n.many) 0 js).any Option.isNone with
      | true =>
        rw [hh] at ov
        simp [un, e2, resD, e1, e3.i, okFs, ov, hh, f5, ft, sRight]
        rfl
      | false =>
        rw [hh] at ov
        simp [un, e2, resD, e1, e3.i, okFs, ov, hh, f5, ft, sOver]
        rfl
    | cons d r =>
      obtain ⟨b1, b2, b3⟩ := ht d r rfl
      have hl2 : ((stJ (ts0 n.many) 0 js).length : Int) = n.many := by rw [stJ_len]; exact hl
      have tb := au_takes_bad w hl2 e3 js.length d b1 b2 b3
      refine ⟨S', ?_, fun hg => ?_⟩
      · refine fnR_as rfl ?_
        simp only [Nat.zero_add, enumD, goFor] at e2
        simp only [m_raw_audited, envOf]
        simp [un, e2, resD, e1, e3.i, okFs, b3, tb, sWrong]
      · simp [goodR] at hg
theorem raw_audited_n (n : Nt) (w : WN n) (d : D) (hd : d = .non ∨ ∃ xs, d = .lst xs) : fm_raw_audited [dN n, d] [] = .ok (.tup [.tup [sWrong, .int 0], .ref 0]) [.ins 1 (auF n 0), .lst ((ts0 n.many).map dO)] := by
  have un : ∀ r, eMake 1 fm_Audit___init__ (aCons (eVar 0) aNil) (some (dN n) :: r) [] = _ := fun r => au_new n w r
  refine fnR_as rfl ?_
  simp only [m_raw_audited, envOf]
  rcases hd with rfl | ⟨xs, rfl⟩
  · simp [un, sWrong]
  · simp [un, sWrong]
end K97
end

section
set_option Elab.async false
set_option linter.all false
set_option maxRecDepth 100000
set_option maxHeartbeats 4000000
/-! P16: what the program says of a journal, the open defs. By an AI agent. -/
namespace G
/-- a journal of live entries and a tail: nothing, or a bad entry and more -/
structure Jn (n : Nt) (js : List (List Int × List Int)) (tail : List D) : Prop where
  v : VJ n (ts0 n.many) 0 js
  t : ∀ d r, tail = d :: r → BadE (stJ (ts0 n.many) 0 js) js.length d ∧ d.nr = true ∧ d ≠ .err
  nr : nrL tail = true
abbrev goodJ (n : Nt) (js : List (List Int × List Int)) (tail : List D) : Bool := goodR n (ts0 n.many) js (!tail.isEmpty)
abbrev resJ (n : Nt) (js : List (List Int × List Int)) (tail : List D) : D := resD n (ts0 n.many) js (!tail.isEmpty)
def dJ (js : List (List Int × List Int)) (tail : List D) : D := .tup (encJ 0 js ++ tail)
@[simp] theorem dJ_ok (js : List (List Int × List Int)) (tail : List D) : dJ js tail ≠ .err := fun z => nomatch z
theorem Jn.nj {n : Nt} {js : List (List Int × List Int)} {tail : List D} (h : Jn n js tail) : (dJ js tail).nr = true := by
  simp [dJ, encJ_nr, h.nr]
end G
namespace K97
open G
section
variable {n : Nt} {js : List (List Int × List Int)} {tail : List D}
theorem audited_w (w : WN n) (h : Jn n js tail) (S : Store) : fm_audited [dN n, dJ js tail] S = .ok (resJ n js tail) S := by
  obtain ⟨S', e, _⟩ := raw_audited_w n w js tail h.v h.t
  refine fnP_ok rfl (by simp [h.nj]) (S1 := S') ?_ (nr_res _ _ _ _)
  have e' : fm_raw_audited [dN n, dJ js tail] [] = _ := e
  simp only [m_audited, envOf]
  simp [check_net_w n w, e']
theorem is_journal_w (w : WN n) (h : Jn n js tail) (S : Store) : fm_is_journal [dN n, dJ js tail] S = .ok (.bl (goodJ n js tail)) S := by
  obtain ⟨S', e, _⟩ := raw_audited_w n w js tail h.v h.t
  refine fnP_ok rfl (by simp [h.nj]) (S1 := S') ?_ rfl
  have e' : fm_raw_audited [dN n, dJ js tail] [] = _ := e
  obtain ⟨x, _, hx, h1, h2, h3⟩ := bIx_res S' n (ts0 n.many) js (!tail.isEmpty)
  simp only [m_is_journal, envOf]
  simp only [sOver, sRight] at h1
  simp [check_net_w n w, e', hx, h1]
theorem audited_n (w : WN n) (d : D) (hd : d = .non ∨ ∃ xs, d = .lst xs) (hr : d.nr = true) (S : Store) : fm_is_journal [dN n, d] S = .ok (.bl false) S := by
  have e' := raw_audited_n n w d hd
  have hz : d ≠ .err := by rcases hd with rfl | ⟨xs, rfl⟩ <;> exact fun z => nomatch z
  refine fnP_ok rfl (by simp [hr]) (S1 := [.ins 1 (auF n 0), .lst ((ts0 n.many).map dO)]) ?_ rfl
  have h1 : ∀ S : Store, bInD S sWrong (.tup [.str [111, 118, 101, 114], .str [114, 105, 103, 104, 116]]) = some (.bl false) := fun S => rfl
  simp only [m_is_journal, envOf]
  simp [check_net_w n w, e', hz, h1]
theorem seen_n (w : WN n) (d : D) (hd : d = .non ∨ ∃ xs, d = .lst xs) (hr : d.nr = true) (S : Store) : fm_course_seen [dN n, d] S = .exc 6 [] S := by
  have e' := raw_audited_n n w d hd
  have hz : d ≠ .err := by rcases hd with rfl | ⟨xs, rfl⟩ <;> exact fun z => nomatch z
  refine fnP_exc rfl (by simp [hr]) (S1 := [.ins 1 (auF n 0), .lst ((ts0 n.many).map dO)]) ?_ rfl
  have h1 : ∀ S : Store, bNotIn S sWrong (.tup [.str [111, 118, 101, 114], .str [114, 105, 103, 104, 116]]) = some (.bl true) := fun S => rfl
  simp only [m_course_seen, envOf]
  simp [check_net_w n w, e', hz, h1]
theorem seen_bad (w : WN n) (h : Jn n js tail) (hg : goodJ n js tail = false) (S : Store) : fm_course_seen [dN n, dJ js tail] S = .exc 6 [] S := by
  obtain ⟨S', e, _⟩ := raw_audited_w n w js tail h.v h.t
  refine fnP_exc rfl (by simp [h.nj]) (S1 := S') ?_ rfl
  have e' : fm_raw_audited [dN n, dJ js tail] [] = _ := e
  obtain ⟨x, _, hx, h1, h2, h3, _⟩ := bIx_res S' n (ts0 n.many) js (!tail.isEmpty)
  rw [show goodR n (ts0 n.many) js (!tail.isEmpty) = false from hg] at h3
  have hrz : resD n (ts0 n.many) js (!tail.isEmpty) ≠ .err := by
    intro z
    have := nr_res n (ts0 n.many) js (!tail.isEmpty)
    rw [z] at hx
    simp [bIx, dicAt, rd] at hx
  simp only [m_course_seen, envOf]
  simp only [sOver, sRight] at h3
  simp [check_net_w n w, e', hx, hrz, h3]
theorem seen_good (w : WN n) (h : Jn n js []) (hg : goodJ n js [] = true) (hc : Came n (stJ (ts0 n.many) 0 js)) (S : Store) : fm_course_seen [dN n, dJ js []] S = .ok (.tup ((n.ls.map (seenP (stJ (ts0 n.many) 0 js) (lastM 0 0 js))).map dP)) S := by
  have hm := inR_iff.mp w.many
  obtain ⟨S', e, hA⟩ := raw_audited_w n w js [] h.v h.t
  have hA := hA hg
  have hl : ((stJ (ts0 n.many) 0 js).length : Int) = n.many := by rw [stJ_len]; exact ts0_len n.many hm.1
  generalize stJ (ts0 n.many) 0 js = ts at *
  generalize lastM 0 0 js = m at *
  refine fnP_ok rfl (by simp [h.nj]) (S1 := S' ++ [.lst ((n.ls.map (seenP ts m)).map dP)]) ?_ (by simp only [nr_tup, nrL_dPs])
  have e' : fm_raw_audited [dN n, dJ js []] [] = _ := e
  obtain ⟨x, _, hx, h1, h2, h3, _⟩ := bIx_res S' n (ts0 n.many) js (![].isEmpty (α := D))
  rw [show goodR n (ts0 n.many) js (![].isEmpty (α := D)) = true from hg] at h3
  generalize hrs : resD n (ts0 n.many) js (![].isEmpty (α := D)) = rs at *
  have hrz : rs ≠ .err := by
    intro z
    rw [z] at hx
    simp [bIx, dicAt, rd] at hx
  have f5 := fun U => hA.fa U 5 (d := .ref 1) rfl
  have f6 := fun U => hA.fa U 6 (d := .int m) rfl
  have hw := w.ll
  obtain ⟨env', S2, g1, ⟨o5, o6, o7, o8, o9, o10, g2⟩, g3, g4⟩ := goFor_fold (p := .tp [.nm 5, .nm 6, .nm 7, .nm 8]) (body := sSeq (sPar [9, 10] (aCons (eBin bIx (eUn (uFld 1 5) (eVar 4)) (eVar 5)) (aCons (eBin bIx (eUn (uFld 1 5) (eVar 4)) (eVar 8)) aNil)))
    (sIf (tV (eUn uNotN (eVar 10))) (sExpr (eAppend (eVar 2) (eTupZ (aCons (eBin bSub (eVar 10) (eVar 9)) (aCons (eBin bSub (eVar 10) (eVar 9)) aNil))))) (sExpr (eAppend (eVar 2) (eTupZ (aCons (eIf (tV (eUn uIsN (eVar 9))) (eVar 6) (eBuilt fMax (aCons (eVar 6) (aCons (eBin bSub (eBin bAdd (eUn (uFld 1 6) (eVar 4)) (eC (.int 1))) (eVar 9)) aNil)))) (aCons (eVar 7) aNil)))))))
    dL (fun (s : List (Int × Int)) l => s ++ [seenP ts m l]) (fun i s env T => (∃ o5 o6 o7 o8 o9 o10, env = [some (dN n), some (dJ js []), some (.ref S'.length), some rs, some (.ref 0), o5, o6, o7, o8, o9, o10]) ∧ T = S' ++ [.lst (s.map dP)] ∧ s.length ≤ i) n.ls 0 []
    [some (dN n), some (dJ js []), some (.ref S'.length), some rs, some (.ref 0), none, none, none, none, none, none] (S' ++ [.lst []]) ⟨⟨none, none, none, none, none, none, rfl⟩, rfl, Nat.le_refl _⟩ (by
      rintro j s env T l hln hj1 hj2 ⟨⟨o5, o6, o7, o8, o9, o10, rfl⟩, rfl, hs⟩
      obtain ⟨e1, e2, e3, e4, _⟩ := w.ev hln
      have tc : ∀ U, bIx (S' ++ U) (.ref 1) (.int l.2.2.2) = some (dO (tAt ts l.2.2.2)) := fun U => bIx_app hA.t U l.2.2.2 (by omega) (by omega)
      have ta : ∀ U, bIx (S' ++ U) (.ref 1) (.int l.1) = some (dO (tAt ts l.1)) := fun U => bIx_app hA.t U l.1 (by omega) (by omega)
      have hi := isL_ref (S := S' ++ [.lst (s.map dP)]) (k := S'.length) (xs := s.map dP) (by simp)
      have hp : ∀ d, pushL (S' ++ [.lst (s.map dP)]) (.ref S'.length) [d] = some (S' ++ [.lst (s.map dP ++ [d])]) := fun d => by
        rw [pushL_ref [d] (xs := s.map dP) (by simp) (by simp; omega)]
        simp [List.set_append]
      refine ⟨_, [some (dN n), some (dJ js []), some (.ref S'.length), some rs, some (.ref 0), some (.int l.1), some (.int l.2.1), some (.int l.2.2.1), some (.int l.2.2.2), some (dO (tAt ts l.1)), some (dO (tAt ts l.2.2.2))], S' ++ [.lst ((s ++ [seenP ts m l]).map dP)], by simp [dL]; rfl, ?_, ⟨_, _, _, _, _, _, rfl⟩, rfl, by simp; omega⟩
      cases h1 : tAt ts l.2.2.2 with
      | some t1 =>
        obtain ⟨t0, h2⟩ := hc l hln t1 h1
        simp [f5, tc, ta, h1, h2, hi, hp, dO, seenP, dP]
      | none =>
        cases h2 : tAt ts l.1 with
        | none => simp [f5, tc, ta, h1, h2, hi, hp, dO, seenP, dP]
        | some t0 => simp [f5, f6, tc, ta, h1, h2, hi, hp, dO, seenP, dP])
  have fm : ∀ (xs : List La) (a : List (Int × Int)), xs.foldl (fun s l => s ++ [seenP ts m l]) a = a ++ xs.map (seenP ts m) := by
    intro xs
    induction xs with
    | nil => intro a; simp
    | cons x r ih => intro a; simp [ih]
  rw [fm, List.nil_append] at g3
  have v2 : eVar 2 env' S2 = .ok (.ref S'.length) S2 := by rw [g2]; simp
  have ft : fTuple S2 [.ref S'.length] = some (.tup ((n.ls.map (seenP ts m)).map dP)) := fTuple_ref _ _ _ (by rw [g3]; simp)
  have i0 : ∀ r S, iSeq (eBin bIx (eVar 0) (eC (.int 2))) (some (dN n) :: r) S = .ok (n.ls.map dL) S := fun r S => by simp [dN]
  simp only [m_course_seen, envOf]
  simp only [sOver, sRight] at h3
  simp [-iSeq_ev, check_net_w n w, e', hx, hrz, h3, i0, g1, v2, ft, -List.map_map]
  exact g3
theorem has_none_of (scr : D) (hs : scr ≠ .err) (S : Store) (h : fm_course_seen [dN n, scr] S = .exc 6 [] S) : fm__law_has_none [dN n, scr] S = .ok (.bl true) S := by
  refine fnR_as rfl ?_
  simp only [m__law_has_none, envOf]
  have c6 : cov_PlanError 6 = some true := rfl
  have x6 : xs 6 6 = true := rfl
  simp [sTryAs, hs, h, c6, clrE, eIsErr, x6]
end
end K97
end

section
set_option Elab.async false
set_option linter.all false
set_option maxRecDepth 100000
set_option maxHeartbeats 4000000
/-! P17: what the law says of a journal. By an AI agent. -/
namespace G
theorem leftL_eq (n : Nt) (ts : List (Option Int)) : ((rgIJ 1 n.many).filter fun e => !decide (e ∈ n.ls.map fun l => l.2.2.2) && (tAt ts e).isNone) = leftL n ts := by
  simp only [leftL, oursL, List.filter_filter]
  apply List.filter_congr
  intro e _
  have : (e ∈ endsL n) = (e ∈ n.ls.map fun l => l.2.2.2) := propext mem_srtI
  simp only [this, Bool.and_comm]
def stO (ts : List (Option Int)) (m : Int) (s : List (List Int) × List Int) (l : La) : List (List Int) × List Int := if canE ts m l then (if mustE ts m l then (s.1, s.2 ++ [l.2.2.2]) else (s.1 ++ s.1.map (· ++ [l.2.2.2]), s.2)) else s
theorem stO_fold (ts : List (Option Int)) (m : Int) : ∀ (xs : List La) (F : List (List Int)) (b : List Int), xs.foldl (stO ts m) (F, b) = (lotsG F ((xs.filter fun l => canE ts m l && !mustE ts m l).map fun l => l.2.2.2), b ++ (xs.filter fun l => canE ts m l && mustE ts m l).map fun l => l.2.2.2)
  | [], F, b => by simp [lotsG]
  | x :: r, F, b => by
    simp only [List.foldl_cons, stO]
    cases h1 : canE ts m x with
    | false => simp [stO_fold ts m r, h1]
    | true => cases h2 : mustE ts m x <;> simp [stO_fold ts m r, h1, h2, lotsG]
theorem rgI_succ (lo : Int) (k : Nat) : rgI lo (k + 1) = lo :: rgI (lo + 1) k := by
  simp only [rgI, List.range_succ_eq_map, List.map_cons, List.map_map]
  congr 1
  · simp
  · apply List.map_congr_left
    intro i _
    simp only [Function.comp]; omega
theorem encJ_get : ∀ (js : List (List Int × List Int)) (k i : Nat), (encJ k js)[i]? = js[i]?.map (encE (k + i))
  | [], k, i => by simp [encJ]
  | x :: r, k, 0 => by simp [encJ]
  | x :: r, k, i + 1 => by
    simp only [encJ, List.getElem?_cons_succ, encJ_get r (k + 1) i]
    rw [show k + 1 + i = k + (i + 1) by omega]
end G
namespace K97
open G
section
variable {n : Nt} {ts : List (Option Int)}
theorem law_left_w (w : WN n) (T : D) (hz : T ≠ .err) (S : Store) (hT : ∀ e, 0 ≤ e → e < n.many → bIx S T (.int e) = some (dO (tAt ts e))) : fm__law_left [dN n, T] S = .ok (.lst ((leftL n ts).map D.int)) S := by
  have hm := inR_iff.mp w.many
  have hw := w.ll
  refine fnR_as rfl ?_
  have c1 : goLc [3] (.nm 3) G.tYes (eBin bIx (eVar 3) (eC (.int 3))) [some (dN n), some T, none, none, none] (n.ls.map dL) [] S = .ok (.lst ((n.ls.map fun l => l.2.2.2).map D.int)) S := by
    rw [List.map_map]
    refine goLc_all dL _ _ (fun x hx => ⟨_, by simp [wipeE]; rfl, ?_⟩) (by omega)
    simp [dL]
  generalize hE : (n.ls.map fun l => l.2.2.2) = E at *
  have c2 : goLc [4] (.nm 4) (G.tAnd (tV (eBin bNotIn (eVar 4) (eVar 2))) (tV (eUn uIsN (eBin bIx (eVar 1) (eVar 4))))) (eVar 4) [some (dN n), some T, some (.lst (E.map D.int)), none, none] ((rgIJ 1 n.many).map D.int) [] S = .ok (.lst ((leftL n ts).map D.int)) S := by
    rw [← leftL_eq, hE]
    rw [goLc_enc D.int (fun e => !decide (e ∈ E) && (tAt ts e).isNone) D.int (rgIJ 1 n.many) [] (fun x hx => ⟨_, by simp [wipeE]; rfl, ?_, fun _ => ?_⟩) (by simp [rgIJ_len]; omega)]
    · rfl
    · have h1 := mem_rgIJ.mp hx
      have h2 := hT x (by omega) (by omega)
      have h3 := bNotIn_lst S x E
      by_cases h4 : x ∈ E <;> simp [h3, h4, h2, hz]
    · simp
  have i1 : ∀ r, iRange2 (eC (.int 1)) (eBin bIx (eVar 0) (eC (.int 0))) (some (dN n) :: r) S = .ok ((rgIJ 1 n.many).map D.int) S := fun r => by
    have r1 := rg2_i 1 n.many S (by omega) (by omega) (by omega) (by omega)
    simp [dN, r1]
  have i2 : ∀ r S, iSeq (eBin bIx (eVar 0) (eC (.int 2))) (some (dN n) :: r) S = .ok (n.ls.map dL) S := fun r S => by simp [dN]
  simp only [m__law_left, envOf]
  simp [-iSeq_ev, -iRange2_ev, i2, c1, i1, c2]
theorem law_seen_w (w : WN n) (hl : (ts.length : Int) = n.many) (hc : Came n ts) (m : Int) (S : Store) : fm__law_seen [dN n, dTs ts, .int m] S = .ok (.tup ((n.ls.map (seenP ts m)).map dP)) S := by
  refine fnP_ok rfl (by simp) (S1 := [.lst ((n.ls.map (seenP ts m)).map dP)]) ?_ (by simp only [nr_tup, nrL_dPs])
  have hw := w.ll
  obtain ⟨env', S2, g1, ⟨o5, o6, o7, o8, g2⟩, g3, g4⟩ := goFor_fold (p := .tp [.nm 4, .nm 5, .nm 6, .nm 7]) (body := sIf (tV (eUn uNotN (eBin bIx (eVar 1) (eVar 7)))) (sExpr (eAppend (eVar 3) (eTupZ (aCons (eBin bSub (eBin bIx (eVar 1) (eVar 7)) (eBin bIx (eVar 1) (eVar 4))) (aCons (eBin bSub (eBin bIx (eVar 1) (eVar 7)) (eBin bIx (eVar 1) (eVar 4))) aNil)))))
    (sExpr (eAppend (eVar 3) (eTupZ (aCons (eIf (tV (eUn uIsN (eBin bIx (eVar 1) (eVar 4)))) (eVar 5) (eBuilt fMax (aCons (eVar 5) (aCons (eBin bSub (eBin bAdd (eVar 2) (eC (.int 1))) (eBin bIx (eVar 1) (eVar 4))) aNil)))) (aCons (eVar 6) aNil))))))
    dL (fun (s : List (Int × Int)) l => s ++ [seenP ts m l]) (fun i s env T => (∃ o5 o6 o7 o8, env = [some (dN n), some (dTs ts), some (.int m), some (.ref 0), o5, o6, o7, o8]) ∧ T = [.lst (s.map dP)] ∧ s.length ≤ i) n.ls 0 []
    [some (dN n), some (dTs ts), some (.int m), some (.ref 0), none, none, none, none] [.lst []] ⟨⟨none, none, none, none, rfl⟩, rfl, Nat.le_refl _⟩ (by
      rintro j s env T l hln hj1 hj2 ⟨⟨o5, o6, o7, o8, rfl⟩, rfl, hs⟩
      obtain ⟨e1, e2, e3, e4, _⟩ := w.ev hln
      have tc : ∀ S, bIx S (dTs ts) (.int l.2.2.2) = some (dO (tAt ts l.2.2.2)) := fun S => bIx_ts S ts l.2.2.2 (by omega) (by omega)
      have ta : ∀ S, bIx S (dTs ts) (.int l.1) = some (dO (tAt ts l.1)) := fun S => bIx_ts S ts l.1 (by omega) (by omega)
      have hi : isL [.lst (s.map dP)] (.ref 0) = true := rfl
      have hp : ∀ d, pushL [.lst (s.map dP)] (.ref 0) [d] = some [.lst (s.map dP ++ [d])] := fun d => by
        rw [pushL_ref [d] (xs := s.map dP) rfl (by simp; omega)]
        simp
      refine ⟨_, [some (dN n), some (dTs ts), some (.int m), some (.ref 0), some (.int l.1), some (.int l.2.1), some (.int l.2.2.1), some (.int l.2.2.2)], [.lst ((s ++ [seenP ts m l]).map dP)], by simp [dL]; rfl, ?_, ⟨_, _, _, _, rfl⟩, rfl, by simp; omega⟩
      cases h1 : tAt ts l.2.2.2 with
      | some t1 =>
        obtain ⟨t0, h2⟩ := hc l hln t1 h1
        simp [tc, ta, h1, h2, hi, hp, dO, seenP, dP]
      | none =>
        cases h2 : tAt ts l.1 with
        | none => simp [tc, ta, h1, h2, hi, hp, dO, seenP, dP]
        | some t0 => simp [tc, ta, h1, h2, hi, hp, dO, seenP, dP])
  have fm : ∀ (xs : List La) (a : List (Int × Int)), xs.foldl (fun s l => s ++ [seenP ts m l]) a = a ++ xs.map (seenP ts m) := by
    intro xs
    induction xs with
    | nil => intro a; simp
    | cons x r ih => intro a; simp [ih]
  rw [fm, List.nil_append] at g3
  have v2 : eVar 3 env' S2 = .ok (.ref 0) S2 := by rw [g2]; simp
  have ft : fTuple S2 [.ref 0] = some (.tup ((n.ls.map (seenP ts m)).map dP)) := fTuple_ref _ _ _ (by rw [g3]; rfl)
  have i0 : ∀ r S, iSeq (eBin bIx (eVar 0) (eC (.int 2))) (some (dN n) :: r) S = .ok (n.ls.map dL) S := fun r S => by simp [dN]
  simp only [m__law_seen, envOf]
  simp [-iSeq_ev, i0, g1, v2, ft, -List.map_map]
  exact g3
theorem law_ends_next_w (w : WN n) (hl : (ts.length : Int) = n.many) (m : Int) (S : Store) : fm__law_ends_next [dN n, .int m, dTs ts] S = .ok (.tup ((endsAt n ts m).map dLot)) S := by
  rw [← endsO_eq]
  have hw := w.ll
  refine fnP_ok rfl (by simp) (S1 := [.lst ((mustL n ts m).map D.int)]) ?_ (by simp)
  obtain ⟨env', S', g1, ⟨o5, o6, o7, o8, g2⟩, g3, g4, g5⟩ := goFor_fold (p := .tp [.nm 5, .nm 6, .nm 7, .nm 8]) (body := sIf (G.tAnd (tV (eUn uIsN (eBin bIx (eVar 2) (eVar 8)))) (G.tAnd (tV (eUn uNotN (eBin bIx (eVar 2) (eVar 5)))) (tV (eChain bLe bLe (eVar 6) (eBin bSub (eVar 1) (eBin bIx (eVar 2) (eVar 5))) (eVar 7))))) (sIf (tV (eBin bEq (eBin bSub (eVar 1) (eBin bIx (eVar 2) (eVar 5))) (eVar 7))) (sExpr (eAppend (eVar 3) (eVar 8))) (sSet (.nm 4) (eBin bAdd (eVar 4) (eLc [9] (.nm 9) (iSeq (eVar 4)) G.tYes (eBin bAdd (eVar 9) (eTupZ (aCons (eVar 8) aNil))))))) sNil)
    dL (stO ts m) (fun i s env T => (∃ o5 o6 o7 o8, env = [some (dN n), some (.int m), some (dTs ts), some (.ref 0), some (.lst (s.1.map dLot)), o5, o6, o7, o8, none]) ∧ T = [.lst (s.2.map D.int)] ∧ (s.1.length ≤ 2 ^ i ∧ ∀ x ∈ s.1, x.length ≤ i) ∧ s.2.length ≤ i) n.ls 0 ([[]], [])
    [some (dN n), some (.int m), some (dTs ts), some (.ref 0), some (.lst [.tup []]), none, none, none, none, none] [.lst []] ⟨⟨none, none, none, none, rfl⟩, rfl, by simp, Nat.le_refl _⟩ (by
      rintro j ⟨F, b⟩ env T l hln hj1 hj2 ⟨⟨o5, o6, o7, o8, rfl⟩, rfl, ⟨hs, hs3⟩, hs2⟩
      simp only at hs hs2 hs3
      have hj : j ≤ 4 := by omega
      have hpow : 2 ^ j ≤ 16 := Nat.pow_le_pow_right (n := 2) (by decide) hj
      obtain ⟨e1, e2, e3, e4, _⟩ := w.ev hln
      have tc : ∀ S, bIx S (dTs ts) (.int l.2.2.2) = some (dO (tAt ts l.2.2.2)) := fun S => bIx_ts S ts l.2.2.2 (by omega) (by omega)
      have ta : ∀ S, bIx S (dTs ts) (.int l.1) = some (dO (tAt ts l.1)) := fun S => bIx_ts S ts l.1 (by omega) (by omega)
      have hi : isL [.lst (b.map D.int)] (.ref 0) = true := rfl
      have hp : ∀ d, pushL [.lst (b.map D.int)] (.ref 0) [d] = some [.lst (b.map D.int ++ [d])] := fun d => by
        rw [pushL_ref [d] (xs := b.map D.int) rfl (by simp; omega)]
        simp
      refine ⟨_, [some (dN n), some (.int m), some (dTs ts), some (.ref 0), some (.lst ((stO ts m (F, b) l).1.map dLot)), some (.int l.1), some (.int l.2.1), some (.int l.2.2.1), some (.int l.2.2.2), none], [.lst ((stO ts m (F, b) l).2.map D.int)], by simp [dL]; rfl, ?_, ⟨_, _, _, _, rfl⟩, rfl, ?_⟩
      · cases h1 : tAt ts l.2.2.2 with
        | some t1 => simp [tc, h1, stO, canE]
        | none =>
          cases h2 : tAt ts l.1 with
          | none => simp [tc, ta, h1, h2, stO, canE]
          | some t =>
            by_cases h3 : l.2.1 ≤ m - t
            · by_cases h4 : m - t ≤ l.2.2.1
              · by_cases h5 : m - t = l.2.2.1
                · have h6 : l.2.1 ≤ l.2.2.1 := by omega
                  simp [tc, ta, h1, h2, dO, h6, h5, stO, canE, mustE, inR, hi, hp]
                · have c1 : goLc [9] (.nm 9) G.tYes (eBin bAdd (eVar 9) (eTupZ (aCons (eVar 8) aNil))) [some (dN n), some (.int m), some (dTs ts), some (.ref 0), some (.lst (F.map dLot)), some (.int l.1), some (.int l.2.1), some (.int l.2.2.1), some (.int l.2.2.2), none] (F.map dLot) [] [.lst (b.map D.int)] = .ok (.lst ((F.map (· ++ [l.2.2.2])).map dLot)) [.lst (b.map D.int)] := by
                    rw [List.map_map]
                    refine goLc_all dLot _ _ (fun x hx => ⟨_, by simp [wipeE]; rfl, ?_⟩) (by omega)
                    have := bAdd_lot [.lst (b.map D.int)] x [l.2.2.2] (by have := hs3 x hx; simp; omega)
                    have e : D.tup [.int l.2.2.2] = dLot [l.2.2.2] := rfl
                    simp [e, this]
                  have c2 := bAdd_lots [.lst (b.map D.int)] F (F.map (· ++ [l.2.2.2])) (by simp; omega)
                  simp [tc, ta, h1, h2, dO, h3, h4, h5, stO, canE, mustE, inR, c1, -List.map_map, c2, -List.map_append]
              · simp [tc, ta, h1, h2, dO, h3, h4, stO, canE, mustE, inR]
            · simp [tc, ta, h1, h2, dO, h3, stO, canE, mustE, inR]
      · simp only [stO]
        have hsu : 2 ^ (j + 1) = 2 ^ j + 2 ^ j := by rw [Nat.pow_succ]; omega
        cases canE ts m l with
        | false => exact ⟨⟨by simp; omega, fun x hx => by have := hs3 x hx; omega⟩, by simp; omega⟩
        | true =>
          cases mustE ts m l with
          | true => exact ⟨⟨by simp; omega, fun x hx => by have := hs3 x hx; omega⟩, by simp; omega⟩
          | false =>
            refine ⟨⟨by simp; omega, fun x hx => ?_⟩, by simp; omega⟩
            rcases List.mem_append.mp hx with hx | hx
            · have := hs3 x hx; omega
            · obtain ⟨y, hy, rfl⟩ := List.mem_map.mp hx
              have := hs3 y hy
              simp; omega)
  rw [stO_fold] at g2 g3 g4
  simp only [List.nil_append] at g2 g3 g4
  have g3' : S' = [.lst ((mustL n ts m).map D.int)] := g3
  have g2' : env' = [some (dN n), some (.int m), some (dTs ts), some (.ref 0), some (.lst ((lotsG [[]] (mayL n ts m)).map dLot)), o5, o6, o7, o8, none] := g2
  have g4' : (lotsG [[]] (mayL n ts m)).length ≤ 2 ^ (0 + n.ls.length) ∧ ∀ x ∈ lotsG [[]] (mayL n ts m), x.length ≤ 0 + n.ls.length := g4
  have hpow : 2 ^ (0 + n.ls.length) ≤ 32 := Nat.pow_le_pow_right (n := 2) (j := 5) (by decide) (by omega)
  have hmust : (mustL n ts m).length ≤ 5 := by
    have := List.length_filter_le (fun l => canE ts m l && mustE ts m l) n.ls
    simp only [mustL, List.length_map]; omega
  subst g3'
  have ft : fTuple [.lst ((mustL n ts m).map D.int)] [.ref 0] = some (dLot (mustL n ts m)) := fTuple_ref _ _ _ rfl
  have q5 : goLc [9] (.nm 9) G.tYes (eBuilt fTuple (aCons (eBuilt fSorted (aCons (eBin bAdd (eVar 9) (eBuilt fTuple (aCons (eVar 3) aNil))) aNil)) aNil)) env' ((lotsG [[]] (mayL n ts m)).map dLot) [] [.lst ((mustL n ts m).map D.int)] =
      .ok (.lst (((lotsG [[]] (mayL n ts m)).map fun lot => srtI (lot ++ mustL n ts m)).map dLot)) [.lst ((mustL n ts m).map D.int)] := by
    rw [List.map_map, g2']
    refine goLc_all dLot _ _ (fun x hx => ⟨_, by simp [wipeE]; rfl, ?_⟩) (by omega)
    have hx2 := g4'.2 x hx
    have h1 := bAdd_lot [.lst ((mustL n ts m).map D.int)] x (mustL n ts m) (by omega)
    have h2 := fSorted_tup [.lst ((mustL n ts m).map D.int)] (x ++ mustL n ts m) (by simp; omega)
    simp [ft, h1, h2]
    rfl
  have q6 := fSorted_lots [.lst ((mustL n ts m).map D.int)] ((lotsG [[]] (mayL n ts m)).map fun lot => srtI (lot ++ mustL n ts m)) (by simp; omega) (by
    cases hz : mustL n ts m with
    | cons a r =>
      refine .inr fun x hx => ?_
      obtain ⟨lot, _, rfl⟩ := List.mem_map.mp hx
      intro z
      have := congrArg List.length z
      rw [srtI, sortG_len] at this
      simp at this
    | nil =>
      refine .inl ?_
      rw [List.head?_map, lotsG_head _ _ rfl]
      rfl)
  have v4 : iSeq (eVar 4) env' [.lst ((mustL n ts m).map D.int)] = .ok ((lotsG [[]] (mayL n ts m)).map dLot) [.lst ((mustL n ts m).map D.int)] := by rw [g2']; simp
  have i0 : ∀ r S, iSeq (eBin bIx (eVar 0) (eC (.int 2))) (some (dN n) :: r) S = .ok (n.ls.map dL) S := fun r S => by simp [dN]
  simp only [m__law_ends_next, envOf]
  simp [-iSeq_ev, i0, g1, -List.map_map, v4, q5, q6]
  rfl
end
end K97
end

section
set_option Elab.async false
set_option linter.all false
set_option maxRecDepth 100000
set_option maxHeartbeats 4000000
/-! P18: the law's own audit. By an AI agent. -/
namespace G
theorem ixN_of {n : Nat} {x : Int} (h0 : 0 ≤ x) (h1 : x < n) : ixN n x = some x.toNat := by
  unfold ixN; rw [if_pos h0, if_pos h1]
theorem setAt_ts {S : Store} {q : Nat} {s : List (Option Int)} (h : S[q]? = some (.lst (s.map dO))) (x k : Int) (h0 : 0 ≤ x) (h1 : x < s.length) : setAt S (.ref q) (.int x) (.int k) = some (S.set q (.lst ((s.set x.toNat (some k)).map dO))) := by
  simp only [setAt, h, List.length_map, ixN_of h0 h1, Option.map_some]
  rw [List.map_set]
  rfl
def bodyLA : SM := (sSeq (sSet (.tp [(.nm 7), (.nm 8), (.nm 9)]) ((eBin bIx (eVar 1) (eVar 3))))
    (sSeq (sSet (.nm 4) ((eCall K97.fm__law_left (aCons (eVar 0) (aCons (eVar 2) aNil)))))
    (sSeq (sIf (G.tOr ((tV (eBin bNotIn (eC .non) (eVar 2)))) ((G.tOr ((tV (eBin bNe (eVar 7) (eVar 3)))) ((tNot ((tTr ((eBuilt fAll (aCons ((eLc [5] (.nm 5) ((iSeq (eVar 9))) (G.tYes) ((eBin bInD (eVar 5) (eVar 4))))) aNil)))))))))) (sRet ((eTupZ (aCons (eC (.str [119, 114, 111, 110, 103])) (aCons (eVar 3) aNil))))) sNil)
    (sSeq (sIf (G.tOr ((G.tAnd ((tV (eBin bEq (eVar 3) (eC (.int 0))))) ((tV (eBin bNe (eVar 8) ((eTupZ aNil))))))) ((G.tAnd ((tV (eBin bGt (eVar 3) (eC (.int 0))))) ((tV (eBin bNotIn (eVar 8) ((eCall K97.fm__law_ends_next (aCons (eVar 0) (aCons (eVar 3) (aCons ((eBuilt fTuple (aCons (eVar 2) aNil))) aNil))))))))))) (sRet ((eTupZ (aCons (eC (.str [119, 114, 111, 110, 103])) (aCons (eVar 3) aNil))))) sNil)
    (sSeq (sFor (.nm 5) (iSeq ((eBin bAdd (eVar 8) (eVar 9)))) (sSetT (.sub (eVar 2) (eVar 5)) (eVar 3)))
    (sSeq (sSet (.nm 6) ((eCall K97.fm__law_lost (aCons (eVar 0) (aCons (eVar 2) aNil)))))
    (sIf (tTr (eVar 6)) (sRet ((eTupZ (aCons (eC (.str [98, 114, 111, 107, 101, 110])) (aCons (eVar 3) (aCons ((eBin bIx (eVar 6) (eC (.int 0)))) aNil)))))) sNil)))))))
end G
namespace K97
open G
theorem la_body {n : Nt} (w : WN n) (js : List (List Int × List Int)) (k : Nat) (c o : List Int) (hj : js[k]? = some (c, o)) (ts : List (Option Int)) (hl : (ts.length : Int) = n.many) (v : VE n ts k c o) (S : Store) (hS : S[0]? = some (.lst (ts.map dO))) (o4 o5 o6 o7 o8 o9 : Option D) :
    ∃ p4 p5 p6 S', S'[0]? = some (.lst ((apE ts k c o).map dO)) ∧ bodyLA [some (dN n), some (dJ js []), some (.ref 0), some (.int k), o4, o5, o6, o7, o8, o9] S = match brk n (apE ts k c o) with
      | [] => .nx [some (dN n), some (dJ js []), some (.ref 0), some (.int k), p4, p5, p6, some (.int k), some (dLot c), some (dLot o)] S'
      | b :: _ => .rt (.tup [sBroken, .int k, .int b]) S' := by
  have c1 := lot_ge v.c1
  have o1 := lot_ge v.o1
  have hS0 : 0 < S.length := (List.getElem?_eq_some_iff.mp hS).1
  have hlft := law_left_w (ts := ts) w (.ref 0) (fun z => nomatch z) S (fun e h0 h1 => bIx_tsR S 0 ts hS e h0 (by omega))
  generalize hL : leftL n ts = L at *
  -- the loop that sets the times
  obtain ⟨env', S1, g1, ⟨o5', g2⟩, g3, g4⟩ := goFor_fold (p := .nm 5) (body := sSetT (.sub (eVar 2) (eVar 5)) (eVar 3)) D.int (fun t e => t.set e.toNat (some (k : Int)))
    (fun i s env T => (∃ o5, env = [some (dN n), some (dJ js []), some (.ref 0), some (.int k), some (.lst (L.map D.int)), o5, o6, some (.int k), some (dLot c), some (dLot o)]) ∧ s.length = ts.length ∧ T[0]? = some (.lst (s.map dO))) (c ++ o) 0 ts
    [some (dN n), some (dJ js []), some (.ref 0), some (.int k), some (.lst (L.map D.int)), o5, o6, some (.int k), some (dLot c), some (dLot o)] S ⟨⟨o5, rfl⟩, rfl, hS⟩ (by
      rintro j s env T x hx hj1 hj2 ⟨⟨o5, rfl⟩, hs, hT⟩
      have hx2 : 0 ≤ x ∧ x < s.length := by
        rcases List.mem_append.mp hx with hx | hx
        · have := c1 x hx; omega
        · have := o1 x hx; omega
      have hset := setAt_ts hT x k hx2.1 hx2.2
      have hT0 : 0 < T.length := (List.getElem?_eq_some_iff.mp hT).1
      refine ⟨_, [some (dN n), some (dJ js []), some (.ref 0), some (.int k), some (.lst (L.map D.int)), some (.int x), o6, some (.int k), some (dLot c), some (dLot o)], T.set 0 (.lst ((s.set x.toNat (some (k : Int))).map dO)), by simp; rfl, ?_, ⟨_, rfl⟩, by simp [hs], by rw [List.getElem?_set_self hT0]⟩
      simp [sSetT, setT, hset])
  have g4' : S1[0]? = some (.lst ((stS ts k (c ++ o)).map dO)) := g4
  rw [stS_apE ts k c o (fun x hx => (c1 x hx).1) (fun x hx => (o1 x hx).1)] at g4'
  have hl1 : ((apE ts k c o).length : Int) = n.many := by rw [apE_len]; exact hl
  have ll := law_lost_w n w (apE ts k c o) hl1 0 S1 g4'
  have hS1 : 0 < S1.length := (List.getElem?_eq_some_iff.mp g4').1
  refine ⟨some (.lst (L.map D.int)), o5', some (.ref S1.length), S1 ++ [.lst ((brk n (apE ts k c o)).map D.int)], by rw [List.getElem?_append_left hS1]; exact g4', ?_⟩
  have eb : ∀ S, bIx S (dJ js []) (.int k) = some (.tup [.int k, dLot c, dLot o]) := fun S => by
    rw [dJ, bIx_tup, atD_nat, List.append_nil, encJ_get, hj]
    simp [encE]
  have bn := bNotIn_tsR S 0 ts hS
  rw [v.op] at bn
  have q1 : ∀ o5, goLc [5] (.nm 5) G.tYes (eBin bInD (eVar 5) (eVar 4)) [some (dN n), some (dJ js []), some (.ref 0), some (.int k), some (.lst (L.map D.int)), o5, o6, some (.int k), some (dLot c), some (dLot o)] (o.map D.int) [] S = .ok (.lst (o.map fun _ => .bl true)) S := fun o5 => by
    refine goLc_all D.int _ o (fun x hx => ⟨_, by simp [wipeE]; rfl, ?_⟩) (by have := v.lo; omega)
    have h1 := bInD_lst S x L
    have h2 : x ∈ L := by rw [← hL]; exact v.ol x hx
    simp [h1, h2]
  have a1 : fAll S [.lst (o.map fun _ => D.bl true)] = some (.bl true) := by
    rw [fAll_map S (fun _ => true) o]; simp
  have ft := fTuple_ref S 0 _ hS
  have ft' : fTuple S [.ref 0] = some (dTs ts) := ft
  have en := law_ends_next_w (ts := ts) w hl k S
  have bd := bAdd_lot S c o (by have := v.lo; have := v.lc; omega)
  have i9 : ∀ env : Env, env[9]? = some (some (dLot o)) → iSeq (eVar 9) env S = .ok (o.map D.int) S := fun env he => by
    rw [iSeq_ev, eVar_get he (by simp)]; simp [dLot]
  have i89 : ∀ env : Env, env[8]? = some (some (dLot c)) → env[9]? = some (some (dLot o)) → iSeq (eBin bAdd (eVar 8) (eVar 9)) env S = .ok ((c ++ o).map D.int) S := fun env h8 he => by
    rw [iSeq_ev, eBin_ev, eVar_get h8 (by simp), bnd_ok, eVar_get he (by simp), bnd_ok, bd]; rfl
  have tr := truD_ref (S1 ++ [.lst ((brk n (apE ts k c o)).map D.int)]) S1.length ((brk n (apE ts k c o)).map D.int) (by simp)
  have v5 : ∀ S, eVar 0 env' S = .ok (dN n) S := fun S => by rw [g2]; simp
  have v52 : ∀ S, eVar 2 env' S = .ok (.ref 0) S := fun S => by rw [g2]; simp
  have hD : D.tup [] = dLot [] := rfl
  rcases v.le with ⟨hk, hc⟩ | ⟨hk, hc⟩
  · have hk' : decide (k = 0) = true := by simp; omega
    have hk1 : decide (0 < k) = false := by simp; omega
    have hb0 : bNe S (dLot c) (.tup []) = some (.bl false) := by rw [hc]; exact bNe_self S (d := dLot []) (by simp)
    cases hb : brk n (apE ts k c o) with
    | nil =>
      rw [hb] at ll tr
      simp [bodyLA, -iSeq_ev, -List.map_append, eb, hlft, bn, i9, q1, a1, hk', hk1, hb0, i89, g1, v5, v52, ll]
      rw [g2]
      simp at tr
      simp [tr]
    | cons b r =>
      rw [hb] at ll tr
      have hx : bIx (S1 ++ [.lst ((b :: r).map D.int)]) (.ref S1.length) (.int 0) = some (.int b) := by
        have h1 : rd (S1 ++ [.lst ((b :: r).map D.int)]) (.ref S1.length) = .lst ((b :: r).map D.int) := by simp [rd]
        have h2 : (S1 ++ [SO.lst ((b :: r).map D.int)])[S1.length]? = some (.lst ((b :: r).map D.int)) := by simp
        simp only [bIx, dicAt, h2, h1]
        exact atD_0 _ _
      simp [bodyLA, -iSeq_ev, -List.map_append, eb, hlft, bn, i9, q1, a1, hk', hk1, hb0, i89, g1, v5, v52, ll]
      rw [g2]
      simp at hx tr
      simp [hx, tr, sBroken]
  · have hb0 := bNotIn_lots S c (endsAt n ts k)
    have hk0 : ¬ k = 0 := by omega
    have hk1 : 0 < k := by omega
    cases hb : brk n (apE ts k c o) with
    | nil =>
      rw [hb] at ll tr
      simp [bodyLA, -iSeq_ev, -List.map_append, eb, hlft, bn, i9, q1, a1, hk0, hk1, ft', en, hb0, hc, i89, g1, v5, v52, ll]
      rw [g2]
      simp at tr
      simp [tr]
    | cons b r =>
      rw [hb] at ll tr
      have hx : bIx (S1 ++ [.lst ((b :: r).map D.int)]) (.ref S1.length) (.int 0) = some (.int b) := by
        have h1 : rd (S1 ++ [.lst ((b :: r).map D.int)]) (.ref S1.length) = .lst ((b :: r).map D.int) := by simp [rd]
        have h2 : (S1 ++ [SO.lst ((b :: r).map D.int)])[S1.length]? = some (.lst ((b :: r).map D.int)) := by simp
        simp only [bIx, dicAt, h2, h1]
        exact atD_0 _ _
      simp [bodyLA, -iSeq_ev, -List.map_append, eb, hlft, bn, i9, q1, a1, hk0, hk1, ft', en, hb0, hc, i89, g1, v5, v52, ll]
      rw [g2]
      simp at hx tr
      simp [hx, tr, sBroken]
end K97
end

section
set_option Elab.async false
set_option linter.all false
set_option maxRecDepth 100000
set_option maxHeartbeats 4000000
/-! P19: the law's own audit; a minute is right. By an AI agent. -/
namespace G
theorem bInD_tsR (S : Store) (k : Nat) (ts : List (Option Int)) (h : S[k]? = some (.lst (ts.map dO))) : bInD S .non (.ref k) = some (.bl (ts.any Option.isNone)) := by
  have h2 : rd S (.ref k) = .lst (ts.map dO) := by simp [rd, h]
  simp only [bInD, bIn, dicAt, h, memD, seqOf, h2, pl_non, Bool.true_and]
  have : (ts.map dO).all (D.pl 19) = true := by simp
  rw [this, if_pos rfl, any_non]
  rfl
theorem goFor_cons (p : Pat) (body : SM) (d : D) (ds : List D) (env : Env) (S : Store) : goFor p body (d :: ds) env S = match bindP p d env with
    | none => .stuck
    | some e => match body e S with
      | .nx e1 S1 => goFor p body ds e1 S1
      | .ct e1 S1 => goFor p body ds e1 S1
      | .bk e1 S1 => .nx e1 S1
      | o => o := by rfl
end G
namespace K97
open G
theorem la_loop {n : Nt} (w : WN n) (js : List (List Int × List Int)) : ∀ (r : List (List Int × List Int)) (k : Nat) (ts : List (Option Int)) (S : Store) (o3 o4 o5 o6 o7 o8 o9 : Option D), (∀ i, r[i]? = js[k + i]?) → (ts.length : Int) = n.many → S[0]? = some (.lst (ts.map dO)) → VJ n ts k r →
    (∃ i b S', audF n ts k r = some (i, b) ∧ goFor (.nm 3) bodyLA ((rgI k r.length).map D.int) [some (dN n), some (dJ js []), some (.ref 0), o3, o4, o5, o6, o7, o8, o9] S = .rt (.tup [sBroken, .int i, .int b]) S') ∨
    (audF n ts k r = none ∧ ∃ p3 p4 p5 p6 p7 p8 p9 S', goFor (.nm 3) bodyLA ((rgI k r.length).map D.int) [some (dN n), some (dJ js []), some (.ref 0), o3, o4, o5, o6, o7, o8, o9] S = .nx [some (dN n), some (dJ js []), some (.ref 0), p3, p4, p5, p6, p7, p8, p9] S' ∧ S'[0]? = some (.lst ((stJ ts k r).map dO)))
  | [], k, ts, S, o3, o4, o5, o6, o7, o8, o9, _, _, hS, _ => .inr ⟨rfl, o3, o4, o5, o6, o7, o8, o9, S, rfl, hS⟩
  | (c, o) :: r, k, ts, S, o3, o4, o5, o6, o7, o8, o9, hj, hl, hS, hv => by
    have hj0 : js[k]? = some (c, o) := (hj 0).symm
    obtain ⟨p4, p5, p6, S', h1, h2⟩ := la_body w js k c o hj0 ts hl hv.1 S hS o4 o5 o6 o7 o8 o9
    have hl1 : ((apE ts k c o).length : Int) = n.many := by rw [apE_len]; exact hl
    have bp : bindP (.nm 3) (.int k) [some (dN n), some (dJ js []), some (.ref 0), o3, o4, o5, o6, o7, o8, o9] = some [some (dN n), some (dJ js []), some (.ref 0), some (.int k), o4, o5, o6, o7, o8, o9] := by simp
    rw [show ((c, o) :: r).length = r.length + 1 from rfl, rgI_succ, List.map_cons, goFor_cons, bp]
    simp only [h2]
    cases hb : brk n (apE ts k c o) with
    | cons b q =>
      refine .inl ⟨k, b, S', ?_, rfl⟩
      simp only [audF, hb]
    | nil =>
      have ih := la_loop w js r (k + 1) (apE ts k c o) S' (some (.int k)) p4 p5 p6 (some (.int k)) (some (dLot c)) (some (dLot o)) (fun i => by
        have := hj (i + 1)
        simp only [List.getElem?_cons_succ] at this
        rw [this, show k + (i + 1) = k + 1 + i by omega]) hl1 h1 hv.2
      rw [show ((k + 1 : Nat) : Int) = (k : Int) + 1 by omega] at ih
      rcases ih with ⟨i, b, S2, e1, e2⟩ | ⟨e1, q3, q4, q5, q6, q7, q8, q9, S2, e2, e3⟩
      · exact .inl ⟨i, b, S2, by simp only [audF, hb]; exact e1, e2⟩
      · exact .inr ⟨by simp only [audF, hb]; exact e1, q3, q4, q5, q6, q7, q8, q9, S2, e2, e3⟩
theorem law_audited_w {n : Nt} (w : WN n) (js : List (List Int × List Int)) (h : Jn n js []) (hjl : js.length < 100000) (S : Store) : fm__law_audited [dN n, dJ js []] S = .ok (resJ n js []) S := by
  have hm := inR_iff.mp w.many
  have hl := ts0_len n.many hm.1
  obtain ⟨d, d1, d2, d3⟩ := ts0_add [] n.many hm.1 hm.2
  have b0 : ∀ S, bIx S (dN n) (.int 0) = some (.int n.many) := fun S => by simp [dN]
  have lp := la_loop w js js 0 (ts0 n.many) [.lst ((ts0 n.many).map dO)] none none none none none none none (fun i => by rw [Nat.zero_add]) hl rfl h.v
  have rg : (rgI 0 js.length) = rgIJ 0 (js.length : Int) := by simp [rgIJ]
  have it : iRange1 (eBuilt fLen (aCons (eVar 1) aNil)) [some (dN n), some (dJ js []), some (.ref 0), none, none, none, none, none, none, none] [.lst ((ts0 n.many).map dO)] = .ok ((rgI 0 js.length).map D.int) [.lst ((ts0 n.many).map dO)] := by
    have : eBuilt fLen (aCons (eVar 1) aNil) [some (dN n), some (dJ js []), some (.ref 0), none, none, none, none, none, none, none] [.lst ((ts0 n.many).map dO)] = .ok (.int js.length) [.lst ((ts0 n.many).map dO)] := by
      simp [dJ, encJ_len]
    rw [iRange1_ev, this, bnd_ok, rg]
    exact rg1_i _ _ (by omega) (by omega)
  have fst : sSet (.nm 2) (eBinT bAdd (eLstZ (aCons (eC (.int 0)) aNil)) (eBin bMul (eLstZ (aCons (eC .non) aNil)) (eBin bSub (eBin bIx (eVar 0) (eC (.int 0))) (eC (.int 1))))) [some (dN n), some (dJ js []), none, none, none, none, none, none, none, none] [] = .nx [some (dN n), some (dJ js []), some (.ref 0), none, none, none, none, none, none, none] [.lst ((ts0 n.many).map dO)] := by
    simp [eBinT, b0, d1, d3]
  have hE : envOf 10 [dN n, dJ js []] = [some (dN n), some (dJ js []), none, none, none, none, none, none, none, none] := rfl
  have shape : ∃ rest, m__law_audited = sSeq (sSet (.nm 2) (eBinT bAdd (eLstZ (aCons (eC (.int 0)) aNil)) (eBin bMul (eLstZ (aCons (eC .non) aNil)) (eBin bSub (eBin bIx (eVar 0) (eC (.int 0))) (eC (.int 1)))))) (sSeq (sFor (.nm 3) (iRange1 (eBuilt fLen (aCons (eVar 1) aNil))) bodyLA) rest) ∧ rest = sRet (eTupZ (aCons (eIf (tV (eBin bInD (eC .non) (eVar 2))) (eC (.str [114, 105, 103, 104, 116])) (eC (.str [111, 118, 101, 114]))) (aCons (eBuilt fTuple (aCons (eVar 2) aNil)) aNil))) := ⟨_, rfl, rfl⟩
  obtain ⟨rest, sh, hr⟩ := shape
  have nd : nrL [dN n, dJ js []] = true := by simp [h.nj]
  rcases lp with ⟨i, b, S', e1, e2⟩ | ⟨e1, p3, p4, p5, p6, p7, p8, p9, S', e2, e3⟩
  · refine fnP_ok rfl nd (S1 := S') ?_ (nr_res _ _ _ _)
    rw [sh, hE, sSeq_ev, fst]
    show ofO2 (sSeq (sFor _ _ _) rest _ _) = _
    rw [sSeq_ev, sFor_ev, it]
    show ofO2 (match goFor _ _ ((rgI ((0 : Nat) : Int) js.length).map D.int) _ _ with | .nx e S1 => _ | o => o) = _
    rw [e2]
    simp [resD, e1]
  · refine fnP_ok rfl nd (S1 := S') ?_ (nr_res _ _ _ _)
    rw [sh, hE, sSeq_ev, fst]
    show ofO2 (sSeq (sFor _ _ _) rest _ _) = _
    rw [sSeq_ev, sFor_ev, it]
    show ofO2 (match goFor _ _ ((rgI ((0 : Nat) : Int) js.length).map D.int) _ _ with | .nx e S1 => _ | o => o) = _
    rw [e2]
    show ofO2 (rest _ _) = _
    rw [hr]
    have h1 := bInD_tsR S' 0 _ e3
    have h2 := fTuple_ref S' 0 _ e3
    cases hh : (stJ (ts0 n.many) 0 js).any Option.isNone with
    | true =>
      rw [hh] at h1
      simp [h1, h2, resD, e1, hh, sRight]; rfl
    | false =>
      rw [hh] at h1
      simp [h1, h2, resD, e1, hh, sOver]; rfl
end K97
end

section
set_option Elab.async false
set_option linter.all false
set_option maxRecDepth 100000
set_option maxHeartbeats 4000000
/-! P20: a minute is right. By an AI agent. -/
namespace G
theorem pl_res (n : Nt) (ts : List (Option Int)) (js : List (List Int × List Int)) (b : Bool) : (resD n ts js b).pl 20 = true := by
  unfold resD
  split
  · simp [sBroken, D.pl]
  · split
    · simp [sWrong, D.pl]
    · split
      · simp [sRight, D.pl]
      · simp [sOver, D.pl]
theorem bIx_good {n : Nt} {ts : List (Option Int)} {js : List (List Int × List Int)} (h : goodR n ts js false = true) (S : Store) : bIx S (resD n ts js false) (.int 1) = some (dTs (stJ ts 0 js)) := by
  unfold goodR at h
  unfold resD
  cases e : audF n ts 0 js with
  | some p => rw [e] at h; cases h
  | none => cases h2 : (stJ ts 0 js).any Option.isNone <;> simp [h2]
theorem res_ok (n : Nt) (ts : List (Option Int)) (js : List (List Int × List Int)) (b : Bool) : resD n ts js b ≠ .err := by
  unfold resD
  split
  · exact fun z => nomatch z
  · split
    · exact fun z => nomatch z
    · split <;> exact fun z => nomatch z
theorem pl_dPs (l : List (Int × Int)) : (D.tup (l.map dP)).pl 20 = true := by
  simp only [D.pl, List.all_map, List.all_eq_true]
  intro x _
  simp [dP, D.pl]
end G
namespace K97
open G
theorem minute_right_w {n : Nt} (w : WN n) {S : Store} {v q : Nat} {pre : List D} {js : List (List Int × List Int)} (h : Jn n js []) (hjl : js.length < 100000) (hv : Lv S v q n pre (lastM 0 0 js) (stJ (ts0 n.many) 0 js)) (hc : Came n (stJ (ts0 n.many) 0 js)) :
    fm__law_is_minute_right [dN n, .ref v, dJ js []] S = .ok (.bl true) S := by
  have hm := inR_iff.mp w.many
  have hl := ts0_len n.many hm.1
  have hl2 : ((stJ (ts0 n.many) 0 js).length : Int) = n.many := by rw [stJ_len]; exact hl
  have a1 := law_audited_w w js h hjl S
  have a2 := audited_w w h S
  have a3 := is_journal_w w h S
  have t1 := lv_times hv
  have t2 := lv_minute hv
  have t3 := lv_over hv
  have t4 := law_seen_w w hl2 hc (lastM 0 0 js) S
  have ne := bNe_self S (pl_res n (ts0 n.many) js false)
  obtain ⟨x, _, hx, h1, h2, h3, h4⟩ := bIx_res S n (ts0 n.many) js false
  have rz := res_ok n (ts0 n.many) js false
  have hs1 := seen_good w h
  have hs2 := seen_bad w h
  have bt := bNe_self S (d := dTs (stJ (ts0 n.many) 0 js)) (by simp)
  have bn := bNotIn_ts S (stJ (ts0 n.many) 0 js)
  have be := bEq_self S (d := .bl (!(stJ (ts0 n.many) 0 js).any Option.isNone)) (by simp)
  have bp := bNe_self S (pl_dPs (n.ls.map (seenP (stJ (ts0 n.many) 0 js) (lastM 0 0 js))))
  have bg := bIx_good (n := n) (ts := ts0 n.many) (js := js)
  have hi := hv.i
  have k1 : okFs [5] (lvF n q) = true := by simp [okFs, lvF, Nat.beq]
  have k2 : okFs [6] (lvF n q) = true := by simp [okFs, lvF, Nat.beq]
  have k3 : okFs [] (lvF n q) = true := by simp [okFs, lvF, Nat.beq]
  simp only [goodJ, resJ, List.isEmpty_nil, Bool.not_true] at a1 a2 a3 hs1 hs2
  generalize resD n (ts0 n.many) js false = rs at *
  generalize stJ (ts0 n.many) 0 js = ts at *
  generalize lastM 0 0 js = m at *
  generalize (n.ls.map (seenP ts m)).map dP = sp at *
  refine fnR_as rfl ?_
  simp only [sOver, sRight] at h1 h2 h3
  have bb := bNe_self S (d := .bl (goodR n (ts0 n.many) js false)) (by simp)
  simp only [m__law_is_minute_right, envOf]
  cases hg : goodR n (ts0 n.many) js false with
  | true =>
    rw [hg] at a3 h2 bb
    have s1 := hs1 hg hc S
    have b1 := bg hg S
    simp [a1, a2, a3, rz, ne, hx, h2, bb, hi, k1, k2, k3, t1, t2, t3, t4, s1, b1, bt, bp, bn, be]
  | false =>
    rw [hg] at a3 h2 bb
    have s1 := has_none_of (n := n) (dJ js []) (by simp) S (hs2 hg S)
    simp [a1, a2, a3, rz, ne, hx, h2, bb, hi, k1, k2, k3, t1, t2, t3, s1, bn, be]
end K97
end

section
set_option Elab.async false
set_option linter.all false
set_option maxRecDepth 100000
set_option maxHeartbeats 4000000
/-! P21: lots of ends. By an AI agent. -/
namespace G
theorem insG_pw (x : Int) : ∀ l : List Int, l.Pairwise (· < ·) → x ∉ l → (insG (fun x y => decide (x < y)) x l).Pairwise (· < ·)
  | [], _, _ => by simp [insG]
  | y :: r, h, hx => by
    simp only [List.mem_cons, not_or] at hx
    have h1 := List.pairwise_cons.mp h
    simp only [insG]
    by_cases hxy : x < y
    · rw [if_pos (by simpa using hxy)]
      refine List.pairwise_cons.mpr ⟨fun z hz => ?_, h⟩
      rcases List.mem_cons.mp hz with rfl | hz
      · exact hxy
      · have := h1.1 z hz; omega
    · rw [if_neg (by simpa using hxy)]
      refine List.pairwise_cons.mpr ⟨fun z hz => ?_, insG_pw x r h1.2 hx.2⟩
      rcases List.mem_cons.mp ((insG_perm _ x r).mem_iff.mp hz) with rfl | hz
      · omega
      · exact h1.1 z hz
theorem srtI_pw : ∀ xs : List Int, xs.Nodup → (srtI xs).Pairwise (· < ·) := by
  have : ∀ (xs acc : List Int), acc.Pairwise (· < ·) → xs.Nodup → (∀ x ∈ xs, x ∉ acc) → (xs.foldl (fun b x => insG (fun x y => decide (x < y)) x b) acc).Pairwise (· < ·) := by
    intro xs
    induction xs with
    | nil => intro acc h _ _; exact h
    | cons x r ih =>
      intro acc h hn hx
      have hn2 := List.nodup_cons.mp hn
      refine ih _ (insG_pw x acc h (hx x List.mem_cons_self)) hn2.2 (fun z hz hz2 => ?_)
      rcases List.mem_cons.mp ((insG_perm _ x acc).mem_iff.mp hz2) with rfl | hz2
      · exact hn2.1 hz
      · exact hx z (List.mem_cons_of_mem _ hz) hz2
  intro xs h
  exact this xs [] List.Pairwise.nil h (fun _ _ z => by cases z)
theorem rise_pw : ∀ l : List Int, l.Pairwise (· < ·) → rise (fun x y => decide (x < y)) l = true
  | [], _ => rfl
  | [x], _ => rfl
  | x :: y :: r, h => by
    have h1 := List.pairwise_cons.mp h
    have ih := rise_pw (y :: r) h1.2
    have h2 := h1.1 y List.mem_cons_self
    simp only [rise, nbr, List.all_cons, Bool.and_eq_true] at ih ⊢
    exact ⟨by simpa using h2, ih⟩
theorem pw_nodup {l : List Int} (h : l.Pairwise (· < ·)) : l.Nodup := h.imp (fun h => by omega)
theorem lotsG_sub : ∀ (xs : List Int) (F : List (List Int)) (x : List Int), x ∈ lotsG F xs → ∃ y ∈ F, ∃ z, z.Sublist xs ∧ x = y ++ z
  | [], F, x, h => ⟨x, h, [], List.Sublist.slnil, by simp⟩
  | a :: r, F, x, h => by
    obtain ⟨y, hy, z, hz, rfl⟩ := lotsG_sub r (F ++ F.map (· ++ [a])) x h
    rcases List.mem_append.mp hy with hy | hy
    · exact ⟨y, hy, z, hz.cons a, rfl⟩
    · obtain ⟨y', hy', rfl⟩ := List.mem_map.mp hy
      exact ⟨y', hy', a :: z, hz.cons₂ a, by simp⟩
theorem inj_of_nodup {α β : Type} {f : α → β} : ∀ {xs : List α}, (xs.map f).Nodup → ∀ {a b}, a ∈ xs → b ∈ xs → f a = f b → a = b
  | [], _, a, b, ha, _, _ => by cases ha
  | x :: r, h, a, b, ha, hb, e => by
    simp only [List.map_cons, List.nodup_cons] at h
    rcases List.mem_cons.mp ha with h1 | h1
    · rcases List.mem_cons.mp hb with h2 | h2
      · rw [h1, h2]
      · exact (h.1 (h1 ▸ e ▸ List.mem_map.mpr ⟨b, h2, rfl⟩)).elim
    · rcases List.mem_cons.mp hb with h2 | h2
      · exact (h.1 (h2 ▸ e ▸ List.mem_map.mpr ⟨a, h1, rfl⟩)).elim
      · exact inj_of_nodup h.2 h1 h2 e
section
variable {n : Nt} (w : WN n) {ts : List (Option Int)} {m : Int} {x : List Int}
include w
/-- what is in a lot of ends -/
theorem endsAt_mem (h : x ∈ endsAt n ts m) : (∀ e ∈ x, ∃ l ∈ n.ls, canE ts m l = true ∧ e = l.2.2.2) ∧ (∀ l ∈ n.ls, canE ts m l = true → mustE ts m l = true → l.2.2.2 ∈ x) ∧ x.Pairwise (· < ·) ∧ x.length ≤ 10 := by
  obtain ⟨y, hy, rfl⟩ := List.mem_map.mp (mem_srtL.mp h)
  obtain ⟨y0, hy0, z, hz, rfl⟩ := lotsG_sub _ _ _ (mem_srtL.mp hy)
  simp only [List.mem_cons, List.not_mem_nil, or_false] at hy0
  subst hy0
  rw [List.nil_append]
  have hmay : ∀ e ∈ z, e ∈ mayL n ts m := fun e he => mem_srtI.mp (hz.subset he)
  have hmay2 : ∀ e ∈ mayL n ts m, ∃ l ∈ n.ls, canE ts m l = true ∧ mustE ts m l = false ∧ e = l.2.2.2 := fun e he => by
    obtain ⟨l, hl, rfl⟩ := List.mem_map.mp he
    have h2 := List.mem_filter.mp hl
    have h3 := h2.2
    simp only [Bool.and_eq_true, Bool.not_eq_true'] at h3
    exact ⟨l, h2.1, h3.1, h3.2, rfl⟩
  have hmust2 : ∀ e ∈ mustL n ts m, ∃ l ∈ n.ls, canE ts m l = true ∧ mustE ts m l = true ∧ e = l.2.2.2 := fun e he => by
    obtain ⟨l, hl, rfl⟩ := List.mem_map.mp he
    have h2 := List.mem_filter.mp hl
    have h3 := h2.2
    simp only [Bool.and_eq_true] at h3
    exact ⟨l, h2.1, h3.1, h3.2, rfl⟩
  have nmay : (mayL n ts m).Nodup := (List.Sublist.map _ List.filter_sublist).nodup w.nd
  have nmust : (mustL n ts m).Nodup := (List.Sublist.map _ List.filter_sublist).nodup w.nd
  have nz : z.Nodup := hz.nodup (pw_nodup (srtI_pw _ nmay))
  have nd : (z ++ mustL n ts m).Nodup := by
    refine List.nodup_append.mpr ⟨nz, nmust, ?_⟩
    intro a ha b hb hab
    subst hab
    obtain ⟨l, h1, h2, h3, h4⟩ := hmay2 a (hmay a ha)
    obtain ⟨l', h1', h2', h3', h4'⟩ := hmust2 a hb
    have := inj_of_nodup w.nd h1 h1' (h4.symm.trans h4')
    subst this
    rw [h3] at h3'; cases h3'
  refine ⟨fun e he => ?_, fun l hl h1 h2 => ?_, srtI_pw _ nd, ?_⟩
  · rcases List.mem_append.mp (mem_srtI.mp he) with he | he
    · obtain ⟨l, h1, h2, h3, h4⟩ := hmay2 e (hmay e he); exact ⟨l, h1, h2, h4⟩
    · obtain ⟨l, h1, h2, h3, h4⟩ := hmust2 e he; exact ⟨l, h1, h2, h4⟩
  · refine mem_srtI.mpr (List.mem_append.mpr (.inr ?_))
    exact List.mem_map.mpr ⟨l, List.mem_filter.mpr ⟨hl, by simp [h1, h2]⟩, rfl⟩
  · have hw := w.ll
    have h1 := hz.length_le
    rw [srtI, sortG_len] at h1
    have h2 : (mayL n ts m).length ≤ 5 := by
      have := List.length_filter_le (fun l => canE ts m l && !mustE ts m l) n.ls
      simp only [mayL, List.length_map]; omega
    have h3 : (mustL n ts m).length ≤ 5 := by
      have := List.length_filter_le (fun l => canE ts m l && mustE ts m l) n.ls
      simp only [mustL, List.length_map]; omega
    rw [srtI, sortG_len, List.length_append]; omega
theorem endsAt_lot (h : x ∈ endsAt n ts m) : (x.all (inR 0 (n.many - 1)) && rise (fun x y => decide (x < y)) x) = true := by
  obtain ⟨h1, _, h3, _⟩ := endsAt_mem w h
  rw [rise_pw x h3, Bool.and_true, List.all_eq_true]
  intro e he
  obtain ⟨l, hl, _, rfl⟩ := h1 e he
  have := w.ev hl
  rw [inR_iff]; omega
end
end G
end

section
set_option Elab.async false
set_option linter.all false
set_option maxRecDepth 100000
set_option maxHeartbeats 4000000
/-! P22: what holds of the times of a live run. By an AI agent. -/
namespace G
/-- the times ahead of the ends of minute k -/
structure Inv (n : Nt) (k : Int) (T : List (Option Int)) : Prop where
  len : (T.length : Int) = n.many
  k0 : 0 ≤ k
  z : tAt T 0 = some 0
  le : ∀ e, 0 ≤ e → e < n.many → ∀ t, tAt T e = some t → 0 ≤ t ∧ ((e = 0 ∧ t = 0) ∨ t < k)
  came : ∀ l ∈ n.ls, ∀ t, tAt T l.2.2.2 = some t → ∃ t0, tAt T l.1 = some t0 ∧ l.2.1 ≤ t - t0 ∧ t - t0 ≤ l.2.2.1
  wait : ∀ l ∈ n.ls, tAt T l.2.2.2 = none → ∀ t0, tAt T l.1 = some t0 → k - t0 ≤ l.2.2.1
/-- the ends of minute k -/
def EndsK (n : Nt) (k : Int) (T : List (Option Int)) (c : List Int) : Prop := (k = 0 ∧ c = []) ∨ (0 < k ∧ c ∈ endsAt n T k)
theorem EndsK.mem {n : Nt} (w : WN n) {k : Int} {T : List (Option Int)} {c : List Int} (h : EndsK n k T c) : (∀ e ∈ c, ∃ l ∈ n.ls, canE T k l = true ∧ e = l.2.2.2) ∧ (0 < k → ∀ l ∈ n.ls, canE T k l = true → mustE T k l = true → l.2.2.2 ∈ c) ∧ c.Pairwise (· < ·) ∧ c.length ≤ 10 := by
  rcases h with ⟨h1, rfl⟩ | ⟨h1, h2⟩
  · exact ⟨fun _ z => by (cases z), fun z => by omega, List.Pairwise.nil, by simp⟩
  · obtain ⟨a, b, c, d⟩ := endsAt_mem w h2
    exact ⟨a, fun _ => b, c, d⟩
theorem canE_iff {ts : List (Option Int)} {m : Int} {l : La} : canE ts m l = true ↔ tAt ts l.2.2.2 = none ∧ ∃ t, tAt ts l.1 = some t ∧ l.2.1 ≤ m - t ∧ m - t ≤ l.2.2.1 := by
  unfold canE
  cases h1 : tAt ts l.2.2.2 <;> cases h2 : tAt ts l.1 <;> simp [inR_iff]
theorem endsL_iff {n : Nt} {x : Int} : x ∈ endsL n ↔ ∃ l ∈ n.ls, x = l.2.2.2 := by
  rw [endsL, mem_srtI, List.mem_map]
  exact ⟨fun ⟨l, h1, h2⟩ => ⟨l, h1, h2.symm⟩, fun ⟨l, h1, h2⟩ => ⟨l, h1, h2.symm⟩⟩
theorem ours_ends {n : Nt} {x : Int} (h : x ∈ oursL n) : x ∉ endsL n := by
  have := (List.mem_filter.mp h).2
  simpa using this
section
variable {n : Nt} (w : WN n) {k : Int} {T : List (Option Int)} {c o : List Int}
include w
theorem Inv.tb (h : Inv n k T) (e : Int) (h0 : 0 ≤ e) (h1 : e < n.many) : tAt (wc T c k) e = if e ∈ c then some k else tAt T e := tAt_wc T c k e h0 (by have := h.len; omega)
/-- the place behind the ends -/
theorem Inv.plc (h : Inv n k T) (hc : EndsK n k T c) : Plc n k (wc T c k) := by
  obtain ⟨c1, c2, c3, _⟩ := hc.mem w
  have hm := inR_iff.mp w.many
  have hlen := h.len
  have cl : ∀ e ∈ c, tAt T e = none := fun e he => by
    obtain ⟨l, _, h2, rfl⟩ := c1 e he
    exact (canE_iff.mp h2).1
  refine ⟨by rw [wc_len]; exact h.len, h.k0, ?_, ?_, ?_, ?_, ?_⟩
  · rw [h.tb w 0 (by omega) (by omega), if_neg (fun z => by have := cl 0 z; rw [h.z] at this; cases this)]
    exact h.z
  · intro o ho t ht
    obtain ⟨i, hi, rfl⟩ := List.mem_iff_getElem.mp ho
    rw [wc_len] at hi
    have e1 : tAt (wc T c k) (i : Int) = some t := by
      simp only [tAt, Int.toNat_natCast]
      rw [List.getElem?_eq_getElem (by rw [wc_len]; exact hi)]
      exact ht
    rw [h.tb w i (by omega) (by omega)] at e1
    have hk := h.k0
    split at e1
    · cases e1; omega
    · have := h.le i (by omega) (by omega) t e1
      omega
  · intro e he z
    have he2 := oursL_ev he
    rw [h.tb w e (by omega) (by omega)] at z
    rw [if_neg (fun q => ours_ends he (by
      obtain ⟨l, h1, _, rfl⟩ := c1 e q
      exact endsL_iff.mpr ⟨l, h1, rfl⟩))] at z
    have := h.le e (by omega) (by omega) k z
    omega
  · intro l hl t ht
    have ev := w.ev hl
    rw [h.tb w l.2.2.2 (by omega) (by omega)] at ht
    have st : ∀ t0, tAt T l.1 = some t0 → tAt (wc T c k) l.1 = some t0 := fun t0 h0 => by
      rw [h.tb w l.1 (by omega) (by omega), if_neg (fun q => by have := cl _ q; rw [h0] at this; cases this)]
      exact h0
    split at ht
    · rename_i hin
      cases ht
      obtain ⟨l', h1, h2, h3⟩ := c1 _ hin
      have := inj_of_nodup w.nd hl h1 h3
      subst this
      obtain ⟨_, t0, q1, q2, q3⟩ := canE_iff.mp h2
      exact ⟨t0, st t0 q1, q2, q3⟩
    · obtain ⟨t0, q1, q2, q3⟩ := h.came l hl t ht
      exact ⟨t0, st t0 q1, q2, q3⟩
  · intro l hl hn t0 h0
    have ev := w.ev hl
    rw [h.tb w l.2.2.2 (by omega) (by omega)] at hn
    rw [h.tb w l.1 (by omega) (by omega)] at h0
    split at hn
    · cases hn
    · rename_i hin
      split at h0
      · cases h0; omega
      · have h1 := h.wait l hl hn t0 h0
        have h2 := h.le l.1 (by omega) (by omega) t0 h0
        by_cases he : k - t0 = l.2.2.1
        · exfalso
          have hk : 0 < k := by omega
          exact hin (c2 hk l hl (canE_iff.mpr ⟨hn, t0, h0, by omega, by omega⟩) (by simp [mustE, h0, he]))
        · omega
/-- an entry is valid -/
theorem Inv.ve (h : Inv n k T) (hc : EndsK n k T c) (op : T.any Option.isNone = true) (o1 : o.Pairwise (· < ·)) (o2 : ∀ x ∈ o, x ∈ leftL n (wc T c k)) : VE n T k c o := by
  obtain ⟨c1, c2, c3, c4⟩ := hc.mem w
  have hm := inR_iff.mp w.many
  have ol : ∀ x ∈ o, x ∈ oursL n ∧ tAt T x = none := fun x hx => by
    have h1 := List.mem_filter.mp (o2 x hx)
    have h2 := oursL_ev h1.1
    refine ⟨h1.1, ?_⟩
    have h3 := h1.2
    rw [h.tb w x (by omega) (by omega)] at h3
    split at h3
    · cases h3
    · simpa using h3
  have lo : o.length ≤ 20 := by
    have : o.Nodup := pw_nodup o1
    have h1 : ∀ (l L : List Int), l.Nodup → (∀ x ∈ l, x ∈ L) → l.length ≤ L.length := by
      intro l
      induction l with
      | nil => intro L _ _; simp
      | cons a r ih =>
        intro L hn hs
        have hn2 := List.nodup_cons.mp hn
        have ha : a ∈ L := hs a List.mem_cons_self
        have := ih (L.erase a) hn2.2 (fun x hx => (List.mem_erase_of_ne (fun e => by rw [e] at hx; exact hn2.1 hx)).mpr (hs x (List.mem_cons_of_mem _ hx)))
        rw [List.length_erase_of_mem ha] at this
        have hp := List.length_pos_of_mem ha
        simp only [List.length_cons]; omega
    have := h1 o (oursL n) this (fun x hx => (ol x hx).1)
    have := oursL_len w
    omega
  refine ⟨op, ?_, rise_pw c c3, ?_, rise_pw o o1, ?_, ?_, ?_, ?_, by omega, hc, by omega⟩
  · rw [List.all_eq_true]
    intro e he
    obtain ⟨l, hl, _, rfl⟩ := c1 e he
    have := w.ev hl
    rw [inR_iff]; omega
  · rw [List.all_eq_true]
    intro e he
    have := oursL_ev (ol e he).1
    rw [inR_iff]; omega
  · intro x hx
    obtain ⟨l, hl, h2, rfl⟩ := c1 x hx
    exact ⟨endsL_iff.mpr ⟨l, hl, rfl⟩, by rw [(canE_iff.mp h2).1]; rfl⟩
  · intro x hx
    have := ol x hx
    exact List.mem_filter.mpr ⟨this.1, by rw [this.2]; rfl⟩
  · intro x hx
    obtain ⟨l, hl, h2, rfl⟩ := c1 x hx
    obtain ⟨q1, t, q2, q3, q4⟩ := canE_iff.mp h2
    exact List.mem_map.mpr ⟨l, List.mem_filter.mpr ⟨hl, by simp [canA, q1, q2, q3]⟩, rfl⟩
  · intro x hx
    obtain ⟨l, hl, rfl⟩ := List.mem_map.mp hx
    have h2 := List.mem_filter.mp hl
    have h3 := h2.2
    have ev := w.ev h2.1
    cases q1 : tAt T l.2.2.2 with
    | some t => simp [canA, q1] at h3
    | none =>
      cases q2 : tAt T l.1 with
      | none => simp [canA, q1, q2] at h3
      | some t0 =>
        simp [canA, mustA, q1, q2] at h3
        have h4 := h.wait l h2.1 q1 t0 q2
        have h5 := h.le l.1 (by omega) (by omega) t0 q2
        refine c2 (by omega) l h2.1 (canE_iff.mpr ⟨q1, t0, q2, by omega, by omega⟩) ?_
        simp [mustE, q2]; omega
/-- the next minute -/
theorem Inv.next (h : Inv n k T) (hc : EndsK n k T c) (o2 : ∀ x ∈ o, x ∈ leftL n (wc T c k)) : Inv n (k + 1) (wc (wc T c k) o k) := by
  have p := h.plc w hc
  have hm := inR_iff.mp w.many
  have hk := h.k0
  have tb : ∀ e, 0 ≤ e → e < n.many → tAt (wc (wc T c k) o k) e = if e ∈ o then some k else tAt (wc T c k) e := fun e h0 h1 => tAt_wc _ _ _ _ h0 (by have := p.len; omega)
  have ol : ∀ x ∈ o, x ∈ oursL n ∧ tAt (wc T c k) x = none := fun x hx => by
    have h1 := List.mem_filter.mp (o2 x hx)
    exact ⟨h1.1, by simpa using h1.2⟩
  have st : ∀ e t0, 0 ≤ e → e < n.many → tAt (wc T c k) e = some t0 → tAt (wc (wc T c k) o k) e = some t0 := fun e t0 h1 h2 h0 => by
    rw [tb e h1 h2, if_neg (fun q => by have := (ol _ q).2; rw [h0] at this; cases this)]
    exact h0
  have en : ∀ l ∈ n.ls, l.2.2.2 ∉ o := fun l hl q => ours_ends (ol _ q).1 (endsL_iff.mpr ⟨l, hl, rfl⟩)
  refine ⟨by rw [wc_len]; exact p.len, by omega, st 0 0 (by omega) (by omega) p.z, ?_, ?_, ?_⟩
  · intro e h0 h1 t ht
    rw [tb e h0 h1] at ht
    split at ht
    · cases ht; omega
    · rw [h.tb w e h0 h1] at ht
      split at ht
      · cases ht; omega
      · have := h.le e h0 h1 t ht
        omega
  · intro l hl t ht
    have ev := w.ev hl
    rw [tb _ (by omega) (by omega), if_neg (en l hl)] at ht
    obtain ⟨t0, q1, q2, q3⟩ := p.came l hl t ht
    exact ⟨t0, st _ _ (by omega) (by omega) q1, q2, q3⟩
  · intro l hl hn t0 h0
    have ev := w.ev hl
    rw [tb _ (by omega) (by omega), if_neg (en l hl)] at hn
    rw [tb _ (by omega) (by omega)] at h0
    split at h0
    · cases h0; omega
    · have := p.wait l hl hn t0 h0
      omega
end
theorem Inv.zero {n : Nt} (w : WN n) : Inv n 0 (ts0 n.many) := by
  have hm := inR_iff.mp w.many
  have hl := ts0_len n.many hm.1
  have hs : ∀ e, 0 ≤ e → e < n.many → ∀ t, tAt (ts0 n.many) e = some t → e = 0 ∧ t = 0 := by
    intro e h0 h1 t ht
    by_cases he : e = 0
    · subst he; rw [ts0_some] at ht; cases ht; exact ⟨rfl, rfl⟩
    · exfalso
      obtain ⟨i, rfl⟩ : ∃ i : Nat, e = (i : Int) + 1 := ⟨(e - 1).toNat, by omega⟩
      have : ((i : Int) + 1).toNat = i + 1 := by omega
      unfold tAt at ht
      rw [this] at ht
      simp only [ts0, List.getElem?_cons_succ, noneL, List.getElem?_replicate] at ht
      split at ht <;> cases ht
  refine ⟨hl, by omega, ts0_some _, ?_, ?_, ?_⟩
  · intro e h0 h1 t ht
    have := hs e h0 h1 t ht
    omega
  · intro l hl t ht
    have ev := w.ev hl
    have := hs _ (by omega) (by omega) t ht
    omega
  · intro l hl hn t0 h0
    have ev := w.ev hl
    have := hs _ (by omega) (by omega) t0 h0
    omega
theorem ts0_any (many : Int) (h : 3 ≤ many) : (ts0 many).any Option.isNone = true := by
  have : ∃ j, (many - 1).toNat = j + 1 := ⟨(many - 1).toNat - 1, by omega⟩
  obtain ⟨j, hj⟩ := this
  simp [ts0, noneL, hj, List.replicate_succ]
theorem Inv.cm {n : Nt} {k : Int} {T : List (Option Int)} (h : Inv n k T) : Came n T := fun l hl t ht => by
  obtain ⟨t0, h1, _⟩ := h.came l hl t ht
  exact ⟨t0, h1⟩
end G
end

section
set_option Elab.async false
set_option linter.all false
set_option maxRecDepth 100000
set_option maxHeartbeats 4000000
/-! P23: the ends of a minute are right. By an AI agent. -/
namespace G
theorem set_self {S : Store} {q : Nat} {x : SO} (h : S[q]? = some x) : S.set q x = S := by
  refine List.ext_getElem? fun i => ?_
  by_cases e : i = q
  · subst e
    rw [List.getElem?_set_self (List.getElem?_eq_some_iff.mp h).1, h]
  · rw [List.getElem?_set_ne (Ne.symm e)]
theorem bIs_tt (S : Store) : bIs S (.bl true) (.bl true) = some (.bl true) := by rfl
end G
namespace K97
open G
section
variable {S : Store} {v q : Nat} {n : Nt} {pre : List D} {m : Int} {ts : List (Option Int)}
theorem can_go_w (w : WN n) (hl : (ts.length : Int) = n.many) (h : Lv S v q n pre m ts) (hp : pre.length < 999) (x : List Int) (hx : x.length < 1000) : fm__law_can_go [.ref v, dLot x] S = .ok (.bl (decide (x ∈ endsAt n ts (m + 1)))) S := by
  have go := lv_go w hl h (by omega) x hx
  have hi := h.i
  have k3 : okFs [] (lvF n q) = true := by simp [okFs, lvF, Nat.beq]
  refine fnR_as rfl ?_
  simp only [m__law_can_go, envOf]
  by_cases hin : x ∈ endsAt n ts (m + 1)
  · have hr := endsAt_lot w hin
    rw [hr, if_pos (by simp [hin])] at go
    have h2 : Lv (S.set q (.lst ((pre ++ [dPl m ts]) ++ [dPl (m + 1) (wc ts x (m + 1))]))) v q n (pre ++ [dPl m ts]) (m + 1) (wc ts x (m + 1)) := h.set
    have un := lv_undo h2 (by simp)
    have e : (S.set q (.lst ((pre ++ [dPl m ts]) ++ [dPl (m + 1) (wc ts x (m + 1))]))).set q (.lst (pre ++ [dPl m ts])) = S := by
      rw [List.set_set]; exact set_self h.s
    rw [e] at un
    have hi2 := h2.i
    generalize S.set q (.lst ((pre ++ [dPl m ts]) ++ [dPl (m + 1) (wc ts x (m + 1))])) = S2 at go un hi2
    simp [sTryAs, hi, k3, go, hin, hi2, un, bIs_tt]
  · rw [if_neg (by simp [hin])] at go
    have c3 : cov_PlanError 3 = some true := rfl
    have x3 : xs 3 3 = true := rfl
    simp [sTryAs, hi, k3, go, hin, c3, clrE, eIsErr, x3]
theorem are_ends_right_w (w : WN n) (h : Lv S v q n pre m ts) (hp : pre.length < 999) (T : List (Option Int)) (o : List Int) (p : Plc n m T) (ht : ts = wc T o m) (o1 : o.Pairwise (· < ·)) (o2 : ∀ x ∈ o, x ∈ leftL n T) (o3 : o.length < 1000) :
    fm__law_are_ends_right [dN n, .ref v, dPl m T, dLot o] S = .ok (.bl true) S := by
  have hm := inR_iff.mp w.many
  have hl : (ts.length : Int) = n.many := by rw [ht, wc_len]; exact p.len
  have hw := w.ll
  have o4 : o.all (inR 0 (n.many - 1)) = true := by
    rw [List.all_eq_true]
    intro e he
    have := oursL_ev (List.mem_filter.mp (o2 e he)).1
    rw [inR_iff]; omega
  have en := ends_next_w n w m T p o o4 (rise_pw o o1) o2 o3 S
  rw [← ht] at en
  have le := law_ends_next_w (ts := ts) w hl (m + 1) S
  have t1 := lv_times h
  have t2 := lv_minute h
  have hi := h.i
  have k1 : okFs [5] (lvF n q) = true := by simp [okFs, lvF, Nat.beq]
  have k2 : okFs [6] (lvF n q) = true := by simp [okFs, lvF, Nat.beq]
  have bne := bNe_self S (d := .tup ((endsAt n ts (m + 1)).map dLot)) (by simp only [D.pl, List.all_map, List.all_eq_true]; intro x _; simp)
  generalize hE : endsAt n ts (m + 1) = E at *
  obtain ⟨env', S', g1, ⟨o6, g2⟩, g3, g4⟩ := goFor_fold (p := .nm 6) (body := sSet (.nm 5) (eBin bAdd (eVar 5) (eLc [7] (.nm 7) (iSeq (eVar 5)) G.tYes (eBuilt fTuple (aCons (eBuilt fSorted (aCons (eBin bAdd (eVar 7) (eTupZ (aCons (eBin bIx (eVar 6) (eC (.int 3))) aNil))) aNil)) aNil)))))
    dL (fun (F : List (List Int)) l => F ++ F.map fun x => srtI (x ++ [l.2.2.2])) (fun i F env T' => (∃ o6, env = [some (dN n), some (.ref v), some (dPl m T), some (dLot o), some (.tup (E.map dLot)), some (.lst (F.map dLot)), o6, none]) ∧ T' = S ∧ F.length ≤ 2 ^ i ∧ ∀ x ∈ F, x.length ≤ i) n.ls 0 [[]]
    [some (dN n), some (.ref v), some (dPl m T), some (dLot o), some (.tup (E.map dLot)), some (.lst [.tup []]), none, none] S ⟨⟨none, rfl⟩, rfl, by simp, by simp⟩ (by
      rintro j F env T' l hln hj1 hj2 ⟨⟨o6, rfl⟩, rfl, hs, hs3⟩
      have hj : j ≤ 4 := by omega
      have hpow : 2 ^ j ≤ 16 := Nat.pow_le_pow_right (n := 2) (by decide) hj
      refine ⟨_, [some (dN n), some (.ref v), some (dPl m T), some (dLot o), some (.tup (E.map dLot)), some (.lst ((F ++ F.map fun x => srtI (x ++ [l.2.2.2])).map dLot)), some (dL l), none], T', by simp; rfl, ?_, ⟨_, rfl⟩, rfl, ?_, ?_⟩
      · have c1 : goLc [7] (.nm 7) G.tYes (eBuilt fTuple (aCons (eBuilt fSorted (aCons (eBin bAdd (eVar 7) (eTupZ (aCons (eBin bIx (eVar 6) (eC (.int 3))) aNil))) aNil)) aNil)) [some (dN n), some (.ref v), some (dPl m T), some (dLot o), some (.tup (E.map dLot)), some (.lst (F.map dLot)), some (dL l), none] (F.map dLot) [] T' = .ok (.lst ((F.map fun x => srtI (x ++ [l.2.2.2])).map dLot)) T' := by
          rw [List.map_map]
          refine goLc_all dLot _ _ (fun x hx => ⟨_, by simp [wipeE]; rfl, ?_⟩) (by omega)
          have h1 := bAdd_lot T' x [l.2.2.2] (by have := hs3 x hx; simp; omega)
          have e : D.tup [.int l.2.2.2] = dLot [l.2.2.2] := rfl
          have h2 := fSorted_tup T' (x ++ [l.2.2.2]) (by have := hs3 x hx; simp; omega)
          have b3 : bIx T' (dL l) (.int 3) = some (.int l.2.2.2) := by simp [dL]
          simp [b3, e, h1, h2]
          rfl
        have c2 := bAdd_lots T' F (F.map fun x => srtI (x ++ [l.2.2.2])) (by simp; omega)
        simp [c1, -List.map_map, c2, -List.map_append]
      · have hsu : 2 ^ (j + 1) = 2 ^ j + 2 ^ j := by rw [Nat.pow_succ]; omega
        simp; omega
      · intro x hx
        rcases List.mem_append.mp hx with hx | hx
        · have := hs3 x hx; omega
        · obtain ⟨y, hy, rfl⟩ := List.mem_map.mp hx
          have := hs3 y hy
          rw [srtI, sortG_len]; simp; omega)
  subst g3
  generalize hF : n.ls.foldl (fun (F : List (List Int)) l => F ++ F.map fun x => srtI (x ++ [l.2.2.2])) [[]] = F at *
  have hpow : 2 ^ (0 + n.ls.length) ≤ 32 := Nat.pow_le_pow_right (n := 2) (j := 5) (by decide) (by omega)
  have c3 : goLc [7] (.nm 7) G.tYes (eBin bEq (eCall fm__law_can_go (aCons (eVar 1) (aCons (eVar 7) aNil))) (eBin bInD (eVar 7) (eVar 4))) env' (F.map dLot) [] S' = .ok (.lst (F.map fun _ => .bl true)) S' := by
    subst g2
    refine goLc_all dLot _ _ (fun x hx => ⟨_, by simp [wipeE]; rfl, ?_⟩) (by have := g4.1; omega)
    have cg := can_go_w w hl h hp x (by have := g4.2 x hx; omega)
    rw [hE] at cg
    have h1 := bInD_lots S' x E
    have h2 := bEq_self S' (d := .bl (decide (x ∈ E))) (by simp)
    simp [cg, h1, h2]
  have a1 : fAll S' [.lst (F.map fun _ => D.bl true)] = some (.bl true) := by
    rw [fAll_map S' (fun _ => true) F]; simp
  have v5 : iSeq (eVar 5) env' S' = .ok (F.map dLot) S' := by rw [g2]; simp
  have i0 : ∀ r S, iSeq (eBin bIx (eVar 0) (eC (.int 2))) (some (dN n) :: r) S = .ok (n.ls.map dL) S := fun r S => by simp [dN]
  refine fnR_as rfl ?_
  simp only [m__law_are_ends_right, envOf]
  simp [-iSeq_ev, en, hi, k1, k2, t1, t2, le, bne, i0, g1, v5, c3, a1]
end
end K97
end

section
set_option Elab.async false
set_option linter.all false
set_option maxRecDepth 100000
set_option maxHeartbeats 4000000
/-! P24: draws. By an AI agent. -/
namespace G
/-- a store whose draws, at d, are these -/
def Sd (S : Store) (d : Nat) (xs : List Int) : Store := S.set d (.lst (xs.map D.int))
theorem Sd_len (S : Store) (d : Nat) (xs : List Int) : (Sd S d xs).length = S.length := by simp [Sd]
theorem Sd_app (S L : Store) (d : Nat) (xs : List Int) (h : d < S.length) : Sd S d xs ++ L = Sd (S ++ L) d xs := by
  rw [Sd, Sd, List.set_append_left _ _ h]
theorem Sd_self {S : Store} {d : Nat} {xs : List Int} (h : S[d]? = some (.lst (xs.map D.int))) : Sd S d xs = S := set_self h
theorem Sd_get (S L : Store) (d : Nat) (xs : List Int) (h : d < S.length) : (Sd S d xs ++ L)[d]? = some (.lst (xs.map D.int)) := by
  rw [List.getElem?_append_left (by rw [Sd_len]; exact h), Sd, List.getElem?_set_self h]
theorem Sd_ne (S L : Store) (d i : Nat) (xs : List Int) (h : i ≠ d) (hi : i < S.length) : (Sd S d xs ++ L)[i]? = S[i]? := by
  rw [List.getElem?_append_left (by rw [Sd_len]; exact hi), Sd, List.getElem?_set_ne (Ne.symm h)]
theorem Sd_loc (S L : Store) (d i : Nat) (xs : List Int) : (Sd S d xs ++ L)[S.length + i]? = L[i]? := by
  rw [List.getElem?_append_right (by rw [Sd_len]; omega), Sd_len]
  congr 1; omega
theorem Sd_loc0 (S L : Store) (d : Nat) (xs : List Int) : (Sd S d xs ++ L)[S.length]? = L[0]? := Sd_loc S L d 0 xs
theorem Sd_set (S L : Store) (d : Nat) (xs ys : List Int) (h : d < S.length) : (Sd S d xs ++ L).set d (.lst (ys.map D.int)) = Sd S d ys ++ L := by
  rw [List.set_append_left _ _ (by rw [Sd_len]; exact h), Sd, List.set_set]; rfl
theorem Sd_setL (S L : Store) (d i : Nat) (xs : List Int) (x : SO) : (Sd S d xs ++ L).set (S.length + i) x = Sd S d xs ++ L.set i x := by
  rw [List.set_append_right _ _ (by rw [Sd_len]; omega), Sd_len]
  congr 2; omega
theorem Sd_Sd (S : Store) (d : Nat) (xs ys : List Int) : Sd (Sd S d xs) d ys = Sd S d ys := by rw [Sd, Sd, List.set_set]; rfl
/-- loops that keep a promise -/
theorem goFor_inv {α : Type} {p : Pat} {body : SM} (enc : α → D) (P : Nat → Env → Store → Prop) (xs : List α) (env : Env) (S : Store) (h : P 0 env S)
    (hs : ∀ j env S x, x ∈ xs → xs[j]? = some x → P j env S → ∃ e e1 S1, bindP p (enc x) env = some e ∧ body e S = .nx e1 S1 ∧ P (j + 1) e1 S1) :
    ∃ env' S', goFor p body (xs.map enc) env S = .nx env' S' ∧ P xs.length env' S' := by
  have : ∀ (ys : List α) (i : Nat) (env : Env) (S : Store), (∀ j, ys[j]? = xs[i + j]?) → P i env S → ∃ env' S', goFor p body (ys.map enc) env S = .nx env' S' ∧ P (i + ys.length) env' S' := by
    intro ys
    induction ys with
    | nil => intro i env S _ h; exact ⟨env, S, rfl, h⟩
    | cons y r ih =>
      intro i env S hg h
      have hy : xs[i]? = some y := (hg 0).symm
      obtain ⟨e, e1, S1, h1, h2, h3⟩ := hs i env S y (List.mem_of_getElem? hy) hy h
      obtain ⟨env', S', g1, g2⟩ := ih (i + 1) e1 S1 (fun j => by
        have := hg (j + 1)
        simp only [List.getElem?_cons_succ] at this
        rw [this, show i + (j + 1) = i + 1 + j by omega]) h3
      refine ⟨env', S', by simp only [List.map_cons, goFor, h1, h2]; exact g1, ?_⟩
      rw [show i + (y :: r).length = i + 1 + r.length by simp; omega]
      exact g2
  obtain ⟨env', S', g1, g2⟩ := this xs 0 env S (fun j => by rw [Nat.zero_add]) h
  exact ⟨env', S', g1, by rw [Nat.zero_add] at g2; exact g2⟩
theorem seq_nx {A B : SM} {env e1 : Env} {S S1 : Store} {o : O} (h : A env S = .nx e1 S1) (h2 : B e1 S1 = o) : sSeq A B env S = o := by rw [sSeq_ev, h]; exact h2
theorem bIx_scr (S : Store) (xs : List Int) (i : Int) (h0 : 0 ≤ i) (h1 : i < xs.length) : ∃ y, bIx S (.scr xs) (.int i) = some (.int y) := by
  refine ⟨xs[i.toNat]'(by omega), ?_⟩
  have : bIx S (.scr xs) (.int i) = atD (xs.map D.int) i := rfl
  rw [this]
  obtain ⟨k, rfl⟩ : ∃ k : Nat, i = k := ⟨i.toNat, by omega⟩
  rw [atD_nat]
  simp
@[simp] theorem fLen_scr (S : Store) (xs : List Int) : fLen S [.scr xs] = some (.int xs.length) := rfl
theorem bMul_c (S : Store) (i j : Int) (h : sml j = true) : bMul S (.int i) (.int j) = some (.int (i * j)) := by simp [bMul, h]
@[simp] theorem fInt_i (S : Store) (i : Int) : fInt S [.int i] = some (.int i) := rfl
theorem bMod_i (S : Store) (i j : Int) (h : 0 < j) : bMod S (.int i) (.int j) = some (.int (i % j)) := by simp [bMod, h]
end G
namespace K97
open G
theorem take_w (S L : Store) (d : Nat) (hd : d < S.length) (xs : List Int) (hx : xs.length ≤ 1000) (m : Int) (hm : 0 < m) :
    ∃ (r : Int) (ys : List Int), 0 ≤ r ∧ r < m ∧ ys.length ≤ 1000 ∧ fm__law_take [.ref d, .int m] (Sd S d xs ++ L) = .ok (.int r) (Sd S d ys ++ L) := by
  have g := Sd_get S L d xs hd
  have tr := truD_ref _ d _ g
  rcases xs.eq_nil_or_concat with rfl | ⟨ys, y, rfl⟩
  · refine ⟨0, [], by omega, hm, by simp, ?_⟩
    refine fnR_as rfl ?_
    simp only [m__law_take, envOf]
    simp at tr
    simp [tr]
  · refine ⟨y % m, ys, Int.emod_nonneg _ (by omega), Int.emod_lt_of_pos _ hm, by simp at hx; omega, ?_⟩
    refine fnR_as rfl ?_
    rw [List.concat_eq_append] at *
    have il := isL_ref g
    have tr' : truD (Sd S d (ys ++ [y]) ++ L) (.ref d) = some true := by rw [tr]; simp
    have e1 : (List.map D.int (ys ++ [y]))[(List.map D.int (ys ++ [y])).length - 1]? = some (.int y) := by simp
    have e2 : (List.map D.int (ys ++ [y])).dropLast = ys.map D.int := by simp
    have e3 := Sd_set S L d (ys ++ [y]) ys hd
    have pp : ∀ r, ePopT (eVar 0) (some (.ref d) :: r) (Sd S d (ys ++ [y]) ++ L) = .ok (.int y) (Sd S d ys ++ L) := fun r => by
      unfold ePopT
      simp only [eVar0 (.ref d) _ _ (by simp), bnd_ok, il, g, e1, e2, e3]
    simp only [m__law_take, envOf]
    simp [tr', pp, bMod_i _ _ _ hm]
theorem law_draws_w (row : List Int) : ∃ xs : List Int, xs.length ≤ 1000 ∧ fm__law_draws [.scr row, .int 260] [] = .ok (.ref 0) [.lst (xs.map D.int)] := by
  have r260 := fun S => rg1_i 260 S (by omega) (by omega)
  -- the first loop
  have l1 : ∀ x : Int, ∃ env' S', goFor (.nm 5) (sIf (tV (eBin bGt (eVar 3) (eC (.int 0)))) (sSeq (sExpr (eAppend (eVar 2) (eBin bMod (eBuilt fInt (aCons (eVar 3) aNil)) (eC (.int 1009))))) (sSet (.nm 3) (eBin bDiv (eVar 3) (eC (.int 1009))))) sNil) ((rgIJ 0 260).map D.int) [some (.scr row), some (.int 260), some (.ref 0), some (.int x), none, none, none] [.lst []] = .nx env' S' ∧
      ∃ (x' : Int) (o5 : Option D) (xs : List Int), env' = [some (.scr row), some (.int 260), some (.ref 0), some (.int x'), none, o5, none] ∧ S' = [.lst (xs.map D.int)] ∧ xs.length ≤ (rgIJ 0 260).length := fun x =>
    goFor_inv D.int (fun i env S => ∃ (x' : Int) (o5 : Option D) (xs : List Int), env = [some (.scr row), some (.int 260), some (.ref 0), some (.int x'), none, o5, none] ∧ S = [.lst (xs.map D.int)] ∧ xs.length ≤ i) (rgIJ 0 260) _ _ ⟨x, none, [], rfl, rfl, Nat.le_refl _⟩ (by
      rintro j env S y hy hj ⟨x', o5, xs, rfl, rfl, hl⟩
      have hj2 := (List.getElem?_eq_some_iff.mp hj).1
      rw [rgIJ_len] at hj2
      by_cases h : 0 < x'
      · have hp := pushL_ref (S := [.lst (xs.map D.int)]) (k := 0) [.int (x' % 1009)] rfl (by simp; omega)
        refine ⟨[some (.scr row), some (.int 260), some (.ref 0), some (.int x'), none, some (.int y), none], [some (.scr row), some (.int 260), some (.ref 0), some (.int (x' / 1009)), none, some (.int y), none], [.lst ((xs ++ [x' % 1009]).map D.int)], by simp, ?_, _, _, _, rfl, rfl, by simp; omega⟩
        simp [h, bMod_i, isL, hp, bDiv]
      · refine ⟨[some (.scr row), some (.int 260), some (.ref 0), some (.int x'), none, some (.int y), none], [some (.scr row), some (.int 260), some (.ref 0), some (.int x'), none, some (.int y), none], [.lst (xs.map D.int)], by simp, ?_, _, _, _, rfl, rfl, by omega⟩
        simp [h])
  have h1 : ∃ x : Int, sSet (.nm 3) (eIf (tTr (eVar 0)) (eBin bIx (eVar 0) (eC (.int 0))) (eC (.int 0))) [some (.scr row), some (.int 260), some (.ref 0), none, none, none, none] [.lst []] = .nx [some (.scr row), some (.int 260), some (.ref 0), some (.int x), none, none, none] [.lst []] := by
    cases row with
    | nil => exact ⟨0, by simp⟩
    | cons y r =>
      obtain ⟨z, hz⟩ := bIx_scr [.lst []] (y :: r) 0 (by omega) (by simp)
      exact ⟨z, by simp [hz]⟩
  have h2 : ∀ x : Int, ∃ y : Int, sIf (tV (eBin bLt (eVar 3) (eC (.int 0)))) (sSet (.nm 3) (eUn uNeg (eVar 3))) sNil [some (.scr row), some (.int 260), some (.ref 0), some (.int x), none, none, none] [.lst []] = .nx [some (.scr row), some (.int 260), some (.ref 0), some (.int y), none, none, none] [.lst []] := fun x => by
    by_cases h : x < 0
    · exact ⟨-x, by simp [h]⟩
    · exact ⟨x, by simp [h]⟩
  have h3 : ∀ x : Int, ∃ (x' : Int) (o5 : Option D) (xs : List Int), sIf (tV (eBin bGe (eVar 3) (eC (.int 1000000000000000000)))) (sFor (.nm 5) (iRange1 (eVar 1)) (sIf (tV (eBin bGt (eVar 3) (eC (.int 0)))) (sSeq (sExpr (eAppend (eVar 2) (eBin bMod (eBuilt fInt (aCons (eVar 3) aNil)) (eC (.int 1009))))) (sSet (.nm 3) (eBin bDiv (eVar 3) (eC (.int 1009))))) sNil)) sNil [some (.scr row), some (.int 260), some (.ref 0), some (.int x), none, none, none] [.lst []] = .nx [some (.scr row), some (.int 260), some (.ref 0), some (.int x'), none, o5, none] [.lst (xs.map D.int)] ∧ xs.length ≤ 260 := fun x => by
    by_cases h : 1000000000000000000 ≤ x
    · obtain ⟨env', S', g1, x', o5, xs, g2, g3, g4⟩ := l1 x
      rw [rgIJ_len] at g4
      refine ⟨x', o5, xs, ?_, by omega⟩
      have it : iRange1 (eVar 1) [some (.scr row), some (.int 260), some (.ref 0), some (.int x), none, none, none] [.lst []] = .ok ((rgIJ 0 260).map D.int) [.lst []] := by
        rw [iRange1_ev, eVar_get (d := .int 260) rfl (by simp), bnd_ok]
        exact r260 _
      subst g2 g3
      have tt : tV (eBin bGe (eVar 3) (eC (.int 1000000000000000000))) [some (.scr row), some (.int 260), some (.ref 0), some (.int x), none, none, none] [.lst []] = .ok true [.lst []] := by simp [h]
      rw [sIf_ev, tt, sb_ok]
      show sFor _ _ _ _ _ = _
      rw [sFor_ev, it]
      exact g1
    · refine ⟨x, none, [], ?_, by simp⟩
      simp [h]
  obtain ⟨x1, e1⟩ := h1
  obtain ⟨x2, e2⟩ := h2 x1
  obtain ⟨x3, o5, xs, e3, hxs⟩ := h3 x2
  -- the second loop
  obtain ⟨env', S', g1, s', o5', o6', ys, g2, g3, g4⟩ := goFor_inv (p := .nm 5) (body := sSeq (sSet (.nm 6) (eVar 5))
    (sSeq (sIf (tTr (eVar 0)) (sSet (.nm 6) (eBin bMod (eBuilt fInt (aCons (eBin bIx (eVar 0) (eBin bMod (eBin bAdd (eVar 5) (eC (.int 1))) (eBuilt fLen (aCons (eVar 0) aNil)))) aNil)) (eC (.int 2147483647)))) sNil)
    (sSeq (sSet (.nm 4) (eBin bMod (eBuilt fInt (aCons (eBin bAdd (eBin bAdd (eBin bAdd (eBin bMul (eVar 4) (eC (.int 48271))) (eVar 6)) (eBin bMul (eVar 5) (eC (.int 69621)))) (eC (.int 13))) aNil)) (eC (.int 2147483647))))
    (sExpr (eAppend (eVar 2) (eBin bMod (eBin bDiv (eBin bMod (eBuilt fInt (aCons (eBin bAdd (eBin bMul (eVar 4) (eC (.int 16807))) (eC (.int 54321))) aNil)) (eC (.int 2147483647))) (eC (.int 7))) (eC (.int 1009)))))))) D.int
    (fun i env S => ∃ (s' : Int) (o5 o6 : Option D) (ys : List Int), env = [some (.scr row), some (.int 260), some (.ref 0), some (.int x3), some (.int s'), o5, o6] ∧ S = [.lst (ys.map D.int)] ∧ ys.length ≤ xs.length + i) (rgIJ 0 (260 - (xs.length : Int))) [some (.scr row), some (.int 260), some (.ref 0), some (.int x3), some (.int 205), o5, none] [.lst (xs.map D.int)] ⟨205, o5, none, xs, rfl, rfl, by omega⟩ (by
      rintro j env S y hy hj ⟨s', o5, o6, ys, rfl, rfl, hl⟩
      have hj2 := (List.getElem?_eq_some_iff.mp hj).1
      rw [rgIJ_len] at hj2
      have hy2 := mem_rgIJ.mp hy
      have q1 : ∃ f : Int, sIf (tTr (eVar 0)) (sSet (.nm 6) (eBin bMod (eBuilt fInt (aCons (eBin bIx (eVar 0) (eBin bMod (eBin bAdd (eVar 5) (eC (.int 1))) (eBuilt fLen (aCons (eVar 0) aNil)))) aNil)) (eC (.int 2147483647)))) sNil [some (.scr row), some (.int 260), some (.ref 0), some (.int x3), some (.int s'), some (.int y), some (.int y)] [.lst (ys.map D.int)] = .nx [some (.scr row), some (.int 260), some (.ref 0), some (.int x3), some (.int s'), some (.int y), some (.int f)] [.lst (ys.map D.int)] := by
        cases row with
        | nil => exact ⟨y, by simp⟩
        | cons a r =>
          have hp : (0 : Int) < (a :: r).length := by simp
          obtain ⟨z, hz⟩ := bIx_scr [.lst (ys.map D.int)] (a :: r) ((y + 1) % ((a :: r).length : Nat)) (Int.emod_nonneg _ (by omega)) (Int.emod_lt_of_pos _ hp)
          have hm := bMod_i [.lst (ys.map D.int)] (y + 1) (a :: r).length hp
          have hm2 := bMod_i [.lst (ys.map D.int)] z 2147483647 (by omega)
          refine ⟨z % 2147483647, ?_⟩
          generalize hR : (a :: r) = R at *
          have ht : truD [.lst (ys.map D.int)] (.scr R) = some true := by rw [← hR]; rfl
          simp [-truD_scr, ht, hm, hz, hm2]
      obtain ⟨f, q1⟩ := q1
      have m1 : ∀ S i, bMul S (.int i) (.int 48271) = some (.int (i * 48271)) := fun S i => bMul_c S i _ (by decide)
      have m2 : ∀ S i, bMul S (.int i) (.int 69621) = some (.int (i * 69621)) := fun S i => bMul_c S i _ (by decide)
      have m3 : ∀ S i, bMul S (.int i) (.int 16807) = some (.int (i * 16807)) := fun S i => bMul_c S i _ (by decide)
      have m4 : ∀ S i, bMod S (.int i) (.int 2147483647) = some (.int (i % 2147483647)) := fun S i => bMod_i S i _ (by omega)
      have m5 : ∀ S i, bMod S (.int i) (.int 1009) = some (.int (i % 1009)) := fun S i => bMod_i S i _ (by omega)
      have m6 : ∀ S i, bDiv S (.int i) (.int 7) = some (.int (i / 7)) := fun S i => by simp [bDiv]
      have hp : ∀ d, pushL [.lst (ys.map D.int)] (.ref 0) [d] = some [.lst (ys.map D.int ++ [d])] := fun d => by
        rw [pushL_ref [d] (xs := ys.map D.int) rfl (by simp; omega)]
        simp
      have il : isL [.lst (ys.map D.int)] (.ref 0) = true := rfl
      refine ⟨[some (.scr row), some (.int 260), some (.ref 0), some (.int x3), some (.int s'), some (.int y), o6], [some (.scr row), some (.int 260), some (.ref 0), some (.int x3), some (.int ((s' * 48271 + f + y * 69621 + 13) % 2147483647)), some (.int y), some (.int f)], [.lst ((ys ++ [((((s' * 48271 + f + y * 69621 + 13) % 2147483647) * 16807 + 54321) % 2147483647) / 7 % 1009]).map D.int)], by simp, seq_nx (e1 := [some (.scr row), some (.int 260), some (.ref 0), some (.int x3), some (.int s'), some (.int y), some (.int y)]) (S1 := [.lst (ys.map D.int)]) (by simp) (seq_nx q1 (seq_nx (e1 := [some (.scr row), some (.int 260), some (.ref 0), some (.int x3), some (.int ((s' * 48271 + f + y * 69621 + 13) % 2147483647)), some (.int y), some (.int f)]) (S1 := [.lst (ys.map D.int)]) (by simp [m1, m2, m4]) ?_)), ?_⟩
      · simp [m3, m4, m5, m6, il, hp]
      · exact ⟨_, _, _, _, rfl, rfl, by simp; omega⟩)
  rw [rgIJ_len] at g4
  refine ⟨ys, by omega, ?_⟩
  refine fnR_as rfl ?_
  have it : iRange1 (eBin bSub (eVar 1) (eBuilt fLen (aCons (eVar 2) aNil))) [some (.scr row), some (.int 260), some (.ref 0), some (.int x3), some (.int 205), o5, none] [.lst (xs.map D.int)] = .ok ((rgIJ 0 (260 - (xs.length : Int))).map D.int) [.lst (xs.map D.int)] := by
    have lf := fLen_ref [.lst (xs.map D.int)] 0 _ rfl
    have : eBin bSub (eVar 1) (eBuilt fLen (aCons (eVar 2) aNil)) [some (.scr row), some (.int 260), some (.ref 0), some (.int x3), some (.int 205), o5, none] [.lst (xs.map D.int)] = .ok (.int (260 - (xs.length : Int))) [.lst (xs.map D.int)] := by simp [lf]
    rw [iRange1_ev, this, bnd_ok]
    exact rg1_i _ _ (by omega) (by omega)
  subst g2 g3
  refine (congrArg ofO2 (seq_nx (e1 := [some (.scr row), some (.int 260), some (.ref 0), none, none, none, none]) (S1 := [.lst []]) (by simp [envOf]) (seq_nx e1 (seq_nx e2 (seq_nx e3 (seq_nx (e1 := [some (.scr row), some (.int 260), some (.ref 0), some (.int x3), some (.int 205), o5, none]) (S1 := [.lst (xs.map D.int)]) (by simp) (seq_nx (by rw [sFor_ev, it]; exact g1) (o := .rt (.ref 0) [.lst (ys.map D.int)]) (by simp)))))))).trans rfl
end K97
end

section
set_option Elab.async false
set_option linter.all false
set_option maxRecDepth 100000
set_option maxHeartbeats 4000000
/-! P25: an order of the events, drawn. By an AI agent. -/
namespace G
theorem insT_pw {α : Type} {lt : α → α → Bool} (t : Tot lt) (x : α) : ∀ l : List α, l.Pairwise (fun a b => lt a b = true) → x ∉ l → (insG lt x l).Pairwise (fun a b => lt a b = true)
  | [], _, _ => by simp [insG]
  | y :: r, h, hx => by
    simp only [List.mem_cons, not_or] at hx
    have h1 := List.pairwise_cons.mp h
    simp only [insG]
    cases hxy : lt x y with
    | true =>
      rw [if_pos rfl]
      refine List.pairwise_cons.mpr ⟨fun z hz => ?_, h⟩
      rcases List.mem_cons.mp hz with rfl | hz
      · exact hxy
      · exact t.trans _ _ _ hxy (h1.1 z hz)
    | false =>
      rw [if_neg (by simp)]
      refine List.pairwise_cons.mpr ⟨fun z hz => ?_, insT_pw t x r h1.2 hx.2⟩
      rcases List.mem_cons.mp ((insG_perm _ x r).mem_iff.mp hz) with rfl | hz
      · cases hyx : lt y z with
        | true => rfl
        | false => exact (hx.1 (t.tri _ _ hxy hyx)).elim
      · exact h1.1 z hz
theorem sortT_pw {α : Type} {lt : α → α → Bool} (t : Tot lt) (xs : List α) (h : xs.Nodup) : (sortG lt xs).Pairwise (fun a b => lt a b = true) := by
  have : ∀ (xs acc : List α), acc.Pairwise (fun a b => lt a b = true) → xs.Nodup → (∀ x ∈ xs, x ∉ acc) → (xs.foldl (fun b x => insG lt x b) acc).Pairwise (fun a b => lt a b = true) := by
    intro xs
    induction xs with
    | nil => intro acc h _ _; exact h
    | cons x r ih =>
      intro acc h hn hx
      have hn2 := List.nodup_cons.mp hn
      refine ih _ (insT_pw t x acc h (hx x List.mem_cons_self)) hn2.2 (fun z hz hz2 => ?_)
      rcases List.mem_cons.mp ((insG_perm _ x acc).mem_iff.mp hz2) with rfl | hz2
      · exact hn2.1 hz
      · exact hx z (List.mem_cons_of_mem _ hz) hz2
  exact this xs [] List.Pairwise.nil h (fun _ _ z => by cases z)
theorem riseT {α : Type} {lt : α → α → Bool} : ∀ l : List α, l.Pairwise (fun a b => lt a b = true) → rise lt l = true
  | [], _ => rfl
  | [x], _ => rfl
  | x :: y :: r, h => by
    have h1 := List.pairwise_cons.mp h
    have ih := riseT (y :: r) h1.2
    have h2 := h1.1 y List.mem_cons_self
    simp only [rise, nbr, List.all_cons, Bool.and_eq_true] at ih ⊢
    exact ⟨h2, ih⟩
theorem Tot.comp {α β : Type} {lt : β → β → Bool} (t : Tot lt) (f : α → β) (hf : ∀ x y, f x = f y → x = y) : Tot (fun x y => lt (f x) (f y)) :=
  ⟨fun x y z => t.trans _ _ _, fun x y => t.asym _ _, fun x y h1 h2 => hf _ _ (t.tri _ _ h1 h2)⟩
theorem tot_lL : Tot (fun x y => lexI (lL x) (lL y)) := tot_lex.comp lL (by
  rintro ⟨a, b, c, d⟩ ⟨a', b', c', d'⟩ h
  simp only [lL, List.cons.injEq, and_true] at h
  simp [h])
theorem fSorted_of {α : Type} {enc : α → D} {lt : α → α → Bool} (hlt : ∀ x y, ltD (enc x) (enc y) = lt x y) (hti : ∀ x, isTI (enc x) = true) (hne : ∀ x, noE (enc x) = true) (S : Store) (d : D) (xs : List α) (hi : itemsOf S d = some (xs.map enc)) (hl : xs.length ≤ 1000) : fSorted S [d] = some (.lst ((sortG lt xs).map enc)) := by
  have c : canSort (xs.map enc) = true := by
    unfold canSort
    have h1 : (xs.map enc).all isTI = true := by simp [hti]
    have h2 : (xs.map enc).all noE = true := by simp [hne]
    simp [h1, h2]
  simp only [fSorted, hi, c, Bool.true_and, List.length_map]
  rw [if_pos (by simp [Nat.ble_eq]; omega), sortG_mp enc _ hlt]
theorem itemsOf_ref {S : Store} {k : Nat} {xs : List D} (h : S[k]? = some (.lst xs)) : itemsOf S (.ref k) = some xs := by
  simp [itemsOf, prsOf, h, seqOf, rd]
theorem map_eraseIdxG {α β : Type} (f : α → β) : ∀ (l : List α) (i : Nat), (l.map f).eraseIdx i = (l.eraseIdx i).map f
  | [], _ => rfl
  | x :: r, 0 => rfl
  | x :: r, i + 1 => by simp [map_eraseIdxG f r i]
theorem eraseIdx_perm {α : Type} : ∀ (l : List α) (i : Nat) (h : i < l.length), (l[i] :: l.eraseIdx i).Perm l
  | x :: r, 0, _ => List.Perm.refl _
  | x :: r, i + 1, h => by
    simp only [List.getElem_cons_succ, List.eraseIdx_cons_succ]
    exact (List.Perm.swap _ _ _).trans ((eraseIdx_perm r i (by simpa using h)).cons x)
theorem Sd_len2 (S L : Store) (d : Nat) (xs : List Int) : (Sd S d xs ++ L).length = S.length + L.length := by simp [Sd_len]
end G
namespace K97
open G
theorem law_order_w (S : Store) (d : Nat) (hd : d < S.length) (xs : List Int) (hx : xs.length ≤ 1000) (many : Int) (h1 : 3 ≤ many) (h2 : many ≤ 5) :
    ∃ (ys ord : List Int), ys.length ≤ 1000 ∧ ord.Perm (0 :: rgIJ 1 many) ∧ ord.head? = some 0 ∧ fm__law_order [.ref d, .int many] (Sd S d xs) = .ok (.ref (S.length + 1)) (Sd S d ys ++ [.lst [], .lst (ord.map D.int)]) := by
  have rl : ∀ S' : Store, eRgT2 (eC (.int 1)) (eVar 1) [some (.ref d), some (.int many), none, none, none] S' = .ok (.ref S'.length) (S' ++ [.lst ((rgIJ 1 many).map D.int)]) := fun S' => by
    have hd2 : decide ((-1000000 : Int) ≤ 1 ∧ (1 : Int) ≤ 1000000 ∧ -1000000 ≤ many ∧ many ≤ 1000000) = true := by
      rw [decide_eq_true_eq]; omega
    have e : rgL (.int 1) (.int many) = some (rangeD 1 (many - 1).toNat) := by
      unfold rgL
      dsimp only
      rw [if_pos hd2]
    rw [rangeD_rg] at e
    simp only [eRgT2, eC_ev, bnd_ok]
    rw [eVar_get (d := .int many) rfl (by simp), bnd_ok, e]
    rfl
  have n1 : (rgIJ 1 many).length = (many - 1).toNat := rgIJ_len 1 many
  obtain ⟨env', S', g1, o2, ys, rem, ord, g2, g3, g4, g5, g6, g7, g8⟩ := goFor_inv (p := .nm 2) (body := sExpr (eAppend (eVar 4) (ePopAtT (eVar 3) (eCall fm__law_take (aCons (eVar 0) (aCons (eBuilt fLen (aCons (eVar 3) aNil)) aNil)))))) D.int
    (fun i env S' => ∃ (o2 : Option D) (ys rem ord : List Int), env = [some (.ref d), some (.int many), o2, some (.ref S.length), some (.ref (S.length + 1))] ∧ S' = Sd S d ys ++ [.lst (rem.map D.int), .lst (ord.map D.int)] ∧ ys.length ≤ 1000 ∧ rem.length + i = (many - 1).toNat ∧ ord.length = i + 1 ∧ (ord ++ rem).Perm (0 :: rgIJ 1 many) ∧ ord.head? = some 0)
    (rgIJ 0 (many - 1)) [some (.ref d), some (.int many), none, some (.ref S.length), some (.ref (S.length + 1))] (Sd S d xs ++ [.lst ((rgIJ 1 many).map D.int), .lst [.int 0]]) ⟨none, xs, rgIJ 1 many, [0], rfl, rfl, hx, by omega, rfl, List.Perm.refl _, rfl⟩ (by
      rintro j env S' y hy hj ⟨o2, ys, rem, ord, rfl, rfl, hys, hr, ho, hp, hh⟩
      have hj2 := (List.getElem?_eq_some_iff.mp hj).1
      rw [rgIJ_len] at hj2
      have hr0 : 0 < rem.length := by omega
      obtain ⟨r, zs, r0, r1, hz, ht⟩ := take_w S [.lst (rem.map D.int), .lst (ord.map D.int)] d hd ys hys rem.length (by omega)
      have fl := fLen_ref (Sd S d ys ++ [.lst (rem.map D.int), .lst (ord.map D.int)]) S.length (rem.map D.int) (by rw [Sd_loc0]; rfl)
      simp only [List.length_map] at fl
      have il : isL (Sd S d ys ++ [.lst (rem.map D.int), .lst (ord.map D.int)]) (.ref S.length) = true := isL_ref (xs := rem.map D.int) (by rw [Sd_loc0]; rfl)
      have il2 : isL (Sd S d ys ++ [.lst (rem.map D.int), .lst (ord.map D.int)]) (.ref (S.length + 1)) = true := isL_ref (xs := ord.map D.int) (by rw [Sd_loc]; rfl)
      have hrn : r.toNat < rem.length := by omega
      have gz : (Sd S d zs ++ [SO.lst (rem.map D.int), .lst (ord.map D.int)])[S.length]? = some (.lst (rem.map D.int)) := by rw [Sd_loc0]; rfl
      have ix : ixN (rem.map D.int).length r = some r.toNat := ixN_of r0 (by rw [List.length_map]; exact r1)
      have gx : (rem.map D.int)[r.toNat]? = some (.int rem[r.toNat]) := by simp [hrn]
      have nb : Nat.ble (rem.map D.int).length 10000000 = true := by rw [List.length_map, Nat.ble_eq]; omega
      have st : (Sd S d zs ++ [SO.lst (rem.map D.int), .lst (ord.map D.int)]).set S.length (.lst ((rem.map D.int).eraseIdx r.toNat)) = Sd S d zs ++ [.lst ((rem.eraseIdx r.toNat).map D.int), .lst (ord.map D.int)] := by
        have := Sd_setL S [.lst (rem.map D.int), .lst (ord.map D.int)] d 0 zs (.lst ((rem.map D.int).eraseIdx r.toNat))
        rw [Nat.add_zero] at this
        rw [this, map_eraseIdxG]
        rfl
      have pp : ePopAtT (eVar 3) (eCall fm__law_take (aCons (eVar 0) (aCons (eBuilt fLen (aCons (eVar 3) aNil)) aNil))) [some (.ref d), some (.int many), some (.int y), some (.ref S.length), some (.ref (S.length + 1))] (Sd S d ys ++ [.lst (rem.map D.int), .lst (ord.map D.int)]) = .ok (.int rem[r.toNat]) (Sd S d zs ++ [.lst ((rem.eraseIdx r.toNat).map D.int), .lst (ord.map D.int)]) := by
        have tk : eCall fm__law_take (aCons (eVar 0) (aCons (eBuilt fLen (aCons (eVar 3) aNil)) aNil)) [some (.ref d), some (.int many), some (.int y), some (.ref S.length), some (.ref (S.length + 1))] (Sd S d ys ++ [.lst (rem.map D.int), .lst (ord.map D.int)]) = .ok (.int r) (Sd S d zs ++ [.lst (rem.map D.int), .lst (ord.map D.int)]) := by
          simp [fl, ht]
        unfold ePopAtT
        rw [eVar_get (d := .ref S.length) rfl (by simp), bnd_ok, il]
        simp only [tk, bnd_ok, gz, ix, gx, nb, if_pos rfl, st]
        rfl
      have pu : pushL (Sd S d zs ++ [.lst ((rem.eraseIdx r.toNat).map D.int), .lst (ord.map D.int)]) (.ref (S.length + 1)) [.int rem[r.toNat]] = some (Sd S d zs ++ [.lst ((rem.eraseIdx r.toNat).map D.int), .lst ((ord ++ [rem[r.toNat]]).map D.int)]) := by
        rw [pushL_ref [.int rem[r.toNat]] (xs := ord.map D.int) (by rw [Sd_loc]; rfl) (by simp; omega), Sd_setL]
        simp
      refine ⟨[some (.ref d), some (.int many), some (.int y), some (.ref S.length), some (.ref (S.length + 1))], [some (.ref d), some (.int many), some (.int y), some (.ref S.length), some (.ref (S.length + 1))], Sd S d zs ++ [.lst ((rem.eraseIdx r.toNat).map D.int), .lst ((ord ++ [rem[r.toNat]]).map D.int)], by simp, ?_, some (.int y), zs, rem.eraseIdx r.toNat, ord ++ [rem[r.toNat]], rfl, rfl, hz, ?_, by simp; omega, ?_, ?_⟩
      · rw [sExpr_ev, eAppend_e2, eVar_get (d := .ref (S.length + 1)) rfl (by simp), bnd_ok, il2]
        simp only [pp, bnd_ok, pu]
        rfl
      · rw [List.length_eraseIdx, if_pos hrn]; omega
      · refine List.Perm.trans ?_ hp
        rw [List.append_assoc]
        refine List.Perm.append_left ord ?_
        show (rem[r.toNat] :: rem.eraseIdx r.toNat).Perm rem
        exact eraseIdx_perm rem r.toNat hrn
      · cases ord with
        | nil => simp at ho
        | cons a b => simpa using hh)
  rw [rgIJ_len] at g5 g6
  have hrem : rem = [] := List.length_eq_zero_iff.mp (by omega)
  subst hrem
  refine ⟨ys, ord, g4, by simpa using g7, g8, ?_⟩
  refine fnR_as rfl ?_
  have it : iRange1 (eBin bSub (eVar 1) (eC (.int 1))) [some (.ref d), some (.int many), none, some (.ref S.length), some (.ref (S.length + 1))] (Sd S d xs ++ [.lst ((rgIJ 1 many).map D.int), .lst [.int 0]]) = .ok ((rgIJ 0 (many - 1)).map D.int) (Sd S d xs ++ [.lst ((rgIJ 1 many).map D.int), .lst [.int 0]]) := by
    have : eBin bSub (eVar 1) (eC (.int 1)) [some (.ref d), some (.int many), none, some (.ref S.length), some (.ref (S.length + 1))] (Sd S d xs ++ [.lst ((rgIJ 1 many).map D.int), .lst [.int 0]]) = .ok (.int (many - 1)) (Sd S d xs ++ [.lst ((rgIJ 1 many).map D.int), .lst [.int 0]]) := by simp
    rw [iRange1_ev, this, bnd_ok]
    exact rg1_i _ _ (by omega) (by omega)
  subst g2 g3
  have fst : sPar [3, 4] (aCons (eRgT2 (eC (.int 1)) (eVar 1)) (aCons (eLstN (aCons (eC (.int 0)) aNil)) aNil)) (envOf 5 [.ref d, .int many]) (Sd S d xs) = .nx [some (.ref d), some (.int many), none, some (.ref S.length), some (.ref (S.length + 1))] (Sd S d xs ++ [.lst ((rgIJ 1 many).map D.int), .lst [.int 0]]) := by
    have hE : envOf 5 [.ref d, .int many] = [some (.ref d), some (.int many), none, none, none] := rfl
    rw [hE]
    simp [rl, Sd_len]
  refine (congrArg ofO2 (seq_nx fst (seq_nx (by rw [sFor_ev, it]; exact g1) (o := .rt (.ref (S.length + 1)) (Sd S d ys ++ [.lst [], .lst (ord.map D.int)])) (by simp)))).trans rfl
end K97
end

section
set_option Elab.async false
set_option linter.all false
set_option maxRecDepth 100000
set_option maxHeartbeats 4000000
/-! P26: lasts, drawn. By an AI agent. -/
namespace G
theorem rgIJ_get {i j : Int} {k : Nat} {y : Int} (h : (rgIJ i j)[k]? = some y) : y = i + k := by
  simp only [rgIJ, rgI, List.getElem?_map] at h
  cases h2 : (List.range (j - i).toNat)[k]? with
  | none => rw [h2] at h; cases h
  | some z =>
    rw [h2] at h
    have h3 := List.getElem?_eq_some_iff.mp h2
    obtain ⟨h4, h5⟩ := h3
    simp at h5
    simp at h
    omega
theorem bIx_lstR {S : Store} {q : Nat} {xs : List Int} (h : S[q]? = some (.lst (xs.map D.int))) (i : Int) {k : Nat} {y : Int} (hk : i = k) (hy : xs[k]? = some y) : bIx S (.ref q) (.int i) = some (.int y) := by
  have : rd S (.ref q) = .lst (xs.map D.int) := by simp [rd, h]
  simp only [bIx, dicAt, h, this]
  rw [hk, atD_nat, List.getElem?_map, hy]; rfl
/-- what is drawn -/
def OkLa (ord : List Int) (j : Nat) (l : La) : Prop := ∃ a b : Nat, a < b ∧ b ≤ j ∧ ord[a]? = some l.1 ∧ ord[b]? = some l.2.2.2 ∧ 1 ≤ l.2.1 ∧ l.2.1 ≤ l.2.2.1 ∧ l.2.2.1 ≤ 10
def lasS (ls : List La) : List La := sortG (fun x y => lexI (lL x) (lL y)) ls
end G
namespace K97
open G
theorem law_lasts_w (S : Store) (d q : Nat) (hd : d < S.length) (hq : q < S.length) (hqd : q ≠ d) (ord : List Int) (hS : S[q]? = some (.lst (ord.map D.int))) (ho : ord.length ≤ 5) (ho0 : ord.length ≠ 0) (hn : ord.Nodup) (xs : List Int) (hx : xs.length ≤ 1000) (lim : Int) (hl0 : 0 ≤ lim) :
    ∃ (ys : List Int) (ls : List La), ys.length ≤ 1000 ∧ (∀ l ∈ ls, OkLa ord (ord.length - 1) l) ∧ (ls.length : Int) ≤ lim ∧ ls.length ≤ 5 ∧ (ls.map fun l => l.2.2.2).Nodup ∧ fm__law_lasts [.ref d, .ref q, .int lim, .int 4] (Sd S d xs) = .ok (.tup ((lasS ls).map dL)) (Sd S d ys ++ [.lst (ls.map dL)]) := by
  have oq : ∀ ys (L : Store), (Sd S d ys ++ L)[q]? = some (.lst (ord.map D.int)) := fun ys L => by rw [Sd_ne S L d q ys hqd hq]; exact hS
  obtain ⟨env', S', g1, o5, o6, o7, ys, ls, g2, g3, g4, g5, g6, g7, g8⟩ := goFor_inv (p := .nm 5) (body := sIf (G.tAnd (tV (eBin bLt (eBuilt fLen (aCons (eVar 4) aNil)) (eVar 2))) (tV (eBin bLt (eCall fm__law_take (aCons (eVar 0) (aCons (eC (.int 5)) aNil))) (eC (.int 4))))) (sSeq (sSet (.nm 6) (eBin bAdd (eC (.int 1)) (eCall fm__law_take (aCons (eVar 0) (aCons (eC (.int 4)) aNil)))))
    (sSeq (sSet (.nm 7) (eBin bAdd (eVar 6) (eCall fm__law_take (aCons (eVar 0) (aCons (eVar 3) aNil)))))
    (sExpr (eAppend (eVar 4) (eTupZ (aCons (eBin bIx (eVar 1) (eCall fm__law_take (aCons (eVar 0) (aCons (eVar 5) aNil)))) (aCons (eVar 6) (aCons (eVar 7) (aCons (eBin bIx (eVar 1) (eVar 5)) aNil))))))))) sNil) D.int
    (fun i env S' => ∃ (o5 o6 o7 : Option D) (ys : List Int) (ls : List La), env = [some (.ref d), some (.ref q), some (.int lim), some (.int 4), some (.ref S.length), o5, o6, o7] ∧ S' = Sd S d ys ++ [.lst (ls.map dL)] ∧ ys.length ≤ 1000 ∧ ls.length ≤ i ∧ (∀ l ∈ ls, OkLa ord i l) ∧ (ls.length : Int) ≤ lim ∧ (ls.map fun l => l.2.2.2).Nodup)
    (rgIJ 1 ord.length) [some (.ref d), some (.ref q), some (.int lim), some (.int 4), some (.ref S.length), none, none, none] (Sd S d xs ++ [.lst []]) ⟨none, none, none, xs, [], rfl, rfl, hx, by simp, by simp, by simpa using hl0, by simp⟩ (by
      rintro j env S' y hy hj ⟨o5, o6, o7, ys, ls, rfl, rfl, hys, hlj, hok, hlim, hnd⟩
      have hj2 := (List.getElem?_eq_some_iff.mp hj).1
      rw [rgIJ_len] at hj2
      have hyv := rgIJ_get hj
      have mono : ∀ l ∈ ls, OkLa ord (j + 1) l := fun l hl => by
        obtain ⟨a, b, h1, h2, h3⟩ := hok l hl
        exact ⟨a, b, h1, by omega, h3⟩
      have fl : ∀ ys, fLen (Sd S d ys ++ [.lst (ls.map dL)]) [.ref S.length] = some (.int ls.length) := fun ys => by
        have := fLen_ref (Sd S d ys ++ [.lst (ls.map dL)]) S.length (ls.map dL) (by rw [Sd_loc0]; rfl)
        simpa using this
      by_cases hc : (ls.length : Int) < lim
      · obtain ⟨r1, z1, p0, p1, q1, t1⟩ := take_w S [.lst (ls.map dL)] d hd ys hys 5 (by omega)
        by_cases hc2 : r1 < 4
        · obtain ⟨r2, z2, p2, p3, q2, t2⟩ := take_w S [.lst (ls.map dL)] d hd z1 q1 4 (by omega)
          obtain ⟨r3, z3, p4, p5, q3, t3⟩ := take_w S [.lst (ls.map dL)] d hd z2 q2 4 (by omega)
          obtain ⟨r4, z4, p6, p7, q4, t4⟩ := take_w S [.lst (ls.map dL)] d hd z3 q3 y (by omega)
          have hb : j + 1 < ord.length := by omega
          have ha : r4.toNat < ord.length := by omega
          have b1 := bIx_lstR (oq z4 [.lst (ls.map dL)]) r4 (k := r4.toNat) (y := ord[r4.toNat]) (by omega) (by simp [ha])
          have b2 := bIx_lstR (oq z4 [.lst (ls.map dL)]) y (k := j + 1) (y := ord[j + 1]) (by omega) (by simp [hb])
          have il : isL (Sd S d z3 ++ [.lst (ls.map dL)]) (.ref S.length) = true := isL_ref (xs := ls.map dL) (by rw [Sd_loc0]; rfl)
          have pu : pushL (Sd S d z4 ++ [.lst (ls.map dL)]) (.ref S.length) [dL (ord[r4.toNat], 1 + r2, 1 + r2 + r3, ord[j + 1])] = some (Sd S d z4 ++ [.lst ((ls ++ [(ord[r4.toNat], 1 + r2, 1 + r2 + r3, ord[j + 1])]).map dL)]) := by
            rw [pushL_ref [dL (ord[r4.toNat], 1 + r2, 1 + r2 + r3, ord[j + 1])] (xs := ls.map dL) (by rw [Sd_loc0]; rfl) (by simp; omega)]
            have := Sd_setL S [.lst (ls.map dL)] d 0 z4 (.lst (ls.map dL ++ [dL (ord[r4.toNat], 1 + r2, 1 + r2 + r3, ord[j + 1])]))
            rw [Nat.add_zero] at this
            rw [this]; simp
          simp only [dL] at pu
          refine ⟨[some (.ref d), some (.ref q), some (.int lim), some (.int 4), some (.ref S.length), some (.int y), o6, o7], [some (.ref d), some (.ref q), some (.int lim), some (.int 4), some (.ref S.length), some (.int y), some (.int (1 + r2)), some (.int (1 + r2 + r3))], Sd S d z4 ++ [.lst ((ls ++ [(ord[r4.toNat], 1 + r2, 1 + r2 + r3, ord[j + 1])]).map dL)], by simp, ?_, some (.int y), some (.int (1 + r2)), some (.int (1 + r2 + r3)), z4, ls ++ [(ord[r4.toNat], 1 + r2, 1 + r2 + r3, ord[j + 1])], rfl, rfl, q4, by simp; omega, ?_, by simp; omega, ?_⟩
          · simp [fl, hc, t1, hc2, t2, t3, il, t4, b1, b2, dL, pu]
          · intro l hl
            rcases List.mem_append.mp hl with hl | hl
            · exact mono l hl
            · rw [List.mem_singleton.mp hl]
              exact ⟨r4.toNat, j + 1, by omega, by omega, by simp [ha], by simp [hb], by simp only; omega, by simp only; omega, by simp only; omega⟩
          · rw [List.map_append]
            refine List.nodup_append.mpr ⟨hnd, by simp, ?_⟩
            intro a ha2 b hb2 hab
            obtain ⟨l, hl, rfl⟩ := List.mem_map.mp ha2
            simp only [List.map_cons, List.map_nil, List.mem_singleton] at hb2
            obtain ⟨a', b', h1, h2, h3, h4, _⟩ := hok l hl
            rw [hab, hb2] at h4
            have hb' := (List.getElem?_eq_some_iff.mp h4)
            obtain ⟨hb'1, hb'2⟩ := hb'
            have hlt : b' < j + 1 := by omega
            exact (List.pairwise_iff_getElem.mp hn) b' (j + 1) hb'1 hb hlt hb'2
        · refine ⟨[some (.ref d), some (.ref q), some (.int lim), some (.int 4), some (.ref S.length), some (.int y), o6, o7], [some (.ref d), some (.ref q), some (.int lim), some (.int 4), some (.ref S.length), some (.int y), o6, o7], Sd S d z1 ++ [.lst (ls.map dL)], by simp, ?_, some (.int y), o6, o7, z1, ls, rfl, rfl, q1, by omega, mono, hlim, hnd⟩
          simp [fl, hc, t1, hc2]
      · refine ⟨[some (.ref d), some (.ref q), some (.int lim), some (.int 4), some (.ref S.length), some (.int y), o6, o7], [some (.ref d), some (.ref q), some (.int lim), some (.int 4), some (.ref S.length), some (.int y), o6, o7], Sd S d ys ++ [.lst (ls.map dL)], by simp, ?_, some (.int y), o6, o7, ys, ls, rfl, rfl, hys, by omega, mono, hlim, hnd⟩
        simp [fl, hc])
  rw [rgIJ_len] at g5 g6
  have gl : ls.length ≤ 5 := by omega
  refine ⟨ys, ls, g4, fun l hl => by
    obtain ⟨a, b, h1, h2, h3⟩ := g6 l hl
    exact ⟨a, b, h1, by omega, h3⟩, g7, gl, g8, ?_⟩
  refine fnR_as rfl ?_
  have fst : sSet (.nm 4) (eLstN aNil) (envOf 8 [.ref d, .ref q, .int lim, .int 4]) (Sd S d xs) = .nx [some (.ref d), some (.ref q), some (.int lim), some (.int 4), some (.ref S.length), none, none, none] (Sd S d xs ++ [.lst []]) := by
    simp [envOf, Sd_len]
  have it : iRange2 (eC (.int 1)) (eBuilt fLen (aCons (eVar 1) aNil)) [some (.ref d), some (.ref q), some (.int lim), some (.int 4), some (.ref S.length), none, none, none] (Sd S d xs ++ [.lst []]) = .ok ((rgIJ 1 ord.length).map D.int) (Sd S d xs ++ [.lst []]) := by
    have fl := fLen_ref _ q _ (oq xs [.lst []])
    rw [List.length_map] at fl
    have : eBuilt fLen (aCons (eVar 1) aNil) [some (.ref d), some (.ref q), some (.int lim), some (.int 4), some (.ref S.length), none, none, none] (Sd S d xs ++ [.lst []]) = .ok (.int ord.length) (Sd S d xs ++ [.lst []]) := by simp [fl]
    rw [iRange2_ev, eC_ev, bnd_ok, this, bnd_ok]
    exact rg2_i _ _ _ (by omega) (by omega) (by omega) (by omega)
  subst g2 g3
  have so : fSorted (Sd S d ys ++ [.lst (ls.map dL)]) [.ref S.length] = some (.lst ((lasS ls).map dL)) := fSorted_of (enc := dL) (lt := fun x y => lexI (lL x) (lL y)) (fun x y => by simp [ltD, rkD, dL, intsOf, lL]) (fun x => by simp [isTI, dL, intsOf]) (fun x => rfl) _ _ ls (itemsOf_ref (by rw [Sd_loc0]; rfl)) (by omega)
  refine (congrArg ofO2 (seq_nx fst (seq_nx (by rw [sFor_ev, it]; exact g1) (o := .rt (.tup ((lasS ls).map dL)) (Sd S d ys ++ [.lst (ls.map dL)])) (by simp [so])))).trans rfl
end K97
end

section
set_option Elab.async false
set_option linter.all false
set_option maxRecDepth 100000
set_option maxHeartbeats 4000000
/-! P27: bounds, drawn into a dict. By an AI agent. -/
namespace G
abbrev Kk := Int × Int
def dKk (k : Kk) : D := .tup [.int k.1, .int k.2]
def dKV (kvs : List (Kk × Int)) : List (D × D) := kvs.map fun kv => (dKk kv.1, .int kv.2)
def putI (k : Kk) (v : Int) (kvs : List (Kk × Int)) : List (Kk × Int) := if kvs.any (fun kv => decide (kv.1 = k)) then kvs.map (fun kv => if kv.1 = k then (kv.1, v) else kv) else kvs ++ [(k, v)]
def lookV (k : Kk) : List (Kk × Int) → Int
  | [] => 0
  | kv :: r => if kv.1 = k then kv.2 else lookV k r
theorem eqv_Kk (a b : Kk) : (dKk a).eqv (dKk b) = decide (a = b) := by
  obtain ⟨a1, a2⟩ := a
  obtain ⟨b1, b2⟩ := b
  simp only [dKk, D.eqv, eqvL]
  rw [Bool.eq_iff_iff]; simp
theorem dput_Kk (k : Kk) (v : Int) (kvs : List (Kk × Int)) : dput (dKk k) (.int v) (dKV kvs) = dKV (putI k v kvs) := by
  have h : (dKV kvs).any (fun kv => kv.1.eqv (dKk k)) = kvs.any (fun kv => decide (kv.1 = k)) := by
    simp only [dKV, List.any_map]
    congr 1
    funext kv
    exact eqv_Kk _ _
  unfold dput putI
  rw [h]
  split
  · simp only [dKV, List.map_map]
    apply List.map_congr_left
    intro kv _
    simp only [Function.comp, eqv_Kk]
    by_cases hk : kv.1 = k <;> simp [hk]
  · simp [dKV]
theorem dget_Kk (k : Kk) : ∀ kvs : List (Kk × Int), k ∈ kvs.map (·.1) → dget (dKk k) (dKV kvs) = some (.int (lookV k kvs))
  | [], h => by cases h
  | kv :: r, h => by
    simp only [dKV, List.map_cons, dget, eqv_Kk, lookV]
    by_cases hk : kv.1 = k
    · simp [hk]
    · simp only [hk, decide_false, Bool.false_eq_true, if_false]
      refine dget_Kk k r ?_
      rcases List.mem_cons.mp h with h | h
      · exact (hk h.symm).elim
      · exact h
theorem dget_Kk_some (k : Kk) : ∀ kvs : List (Kk × Int), (dget (dKk k) (dKV kvs)).isSome = decide (k ∈ kvs.map (·.1))
  | [] => rfl
  | kv :: r => by
    simp only [dKV, List.map_cons, dget, eqv_Kk]
    by_cases hk : kv.1 = k
    · simp [hk]
    · have ih := dget_Kk_some k r
      simp only [dKV] at ih
      simp only [hk, decide_false, Bool.false_eq_true, if_false, ih]
      have : k ≠ kv.1 := Ne.symm hk
      simp [this]
theorem lookV_mem (k : Kk) : ∀ kvs : List (Kk × Int), k ∈ kvs.map (·.1) → (k, lookV k kvs) ∈ kvs
  | [], h => by cases h
  | kv :: r, h => by
    simp only [lookV]
    by_cases hk : kv.1 = k
    · rw [if_pos hk]; rw [← hk]; exact List.mem_cons_self
    · rw [if_neg hk]
      refine List.mem_cons_of_mem _ (lookV_mem k r ?_)
      rcases List.mem_cons.mp h with h | h
      · exact (hk h.symm).elim
      · exact h
/-- bounds between events -/
structure BD (many : Int) (kvs : List (Kk × Int)) : Prop where
  nd : (kvs.map (·.1)).Nodup
  ok : ∀ kv ∈ kvs, 0 ≤ kv.1.1 ∧ kv.1.1 < many ∧ 0 ≤ kv.1.2 ∧ kv.1.2 < many ∧ kv.1.1 ≠ kv.1.2 ∧ -100000 ≤ kv.2 ∧ kv.2 ≤ 100000
theorem putI_len (k : Kk) (v : Int) (kvs : List (Kk × Int)) : (putI k v kvs).length ≤ kvs.length + 1 := by
  unfold putI
  split <;> simp
theorem BD.put {many : Int} {kvs : List (Kk × Int)} (h : BD many kvs) (a b v : Int) (h1 : 0 ≤ a ∧ a < many ∧ 0 ≤ b ∧ b < many ∧ a ≠ b ∧ -100000 ≤ v ∧ v ≤ 100000) : BD many (putI (a, b) v kvs) := by
  unfold putI
  split
  · rename_i hin
    refine ⟨?_, ?_⟩
    · have : (kvs.map (fun kv => if kv.1 = (a, b) then (kv.1, v) else kv)).map (·.1) = kvs.map (·.1) := by
        rw [List.map_map]
        apply List.map_congr_left
        intro kv _
        simp only [Function.comp]
        split <;> rfl
      rw [this]; exact h.nd
    · intro kv hkv
      obtain ⟨kv0, h0, rfl⟩ := List.mem_map.mp hkv
      have := h.ok kv0 h0
      split
      · rename_i he
        simp only
        rw [he] at this ⊢
        simp only at this ⊢
        omega
      · exact this
  · rename_i hin
    refine ⟨?_, ?_⟩
    · rw [List.map_append]
      refine List.nodup_append.mpr ⟨h.nd, by simp, ?_⟩
      intro x hx y hy hxy
      simp only [List.map_cons, List.map_nil, List.mem_singleton] at hy
      obtain ⟨kv, hkv, rfl⟩ := List.mem_map.mp hx
      refine hin ?_
      rw [List.any_eq_true]
      exact ⟨kv, hkv, by rw [hxy, hy]; simp⟩
    · intro kv hkv
      rcases List.mem_append.mp hkv with hkv | hkv
      · exact h.ok kv hkv
      · rw [List.mem_singleton.mp hkv]; simp only; omega
def ltK (x y : Kk) : Bool := lexI [x.1, x.2] [y.1, y.2]
theorem tot_K : Tot ltK := tot_lex.comp (fun x : Kk => [x.1, x.2]) (by
  rintro ⟨a, b⟩ ⟨a', b'⟩ h
  simp only [List.cons.injEq, and_true] at h
  simp [h])
def bndS (kvs : List (Kk × Int)) : List Bd := (sortG ltK (kvs.map (·.1))).map fun k => (k.1, k.2, lookV k kvs)
theorem bndS_ok {many : Int} {kvs : List (Kk × Int)} (h : BD many kvs) : (∀ b ∈ bndS kvs, 0 ≤ b.1 ∧ b.1 < many ∧ 0 ≤ b.2.1 ∧ b.2.1 < many ∧ b.1 ≠ b.2.1 ∧ -100000 ≤ b.2.2 ∧ b.2.2 ≤ 100000) ∧ (bndS kvs).length = kvs.length ∧ rise (fun x y => lexI (lB2 x) (lB2 y)) (bndS kvs) = true := by
  refine ⟨?_, ?_, ?_⟩
  · intro b hb
    obtain ⟨k, hk, rfl⟩ := List.mem_map.mp hb
    have := h.ok _ (lookV_mem k kvs ((sortG_perm _ _).mem_iff.mp hk))
    exact this
  · rw [bndS, List.length_map, sortG_len, List.length_map]
  · refine riseT _ ?_
    rw [bndS, List.pairwise_map]
    exact sortT_pw tot_K _ h.nd
theorem isKeyT_Kk (k : Kk) : isKeyT (dKk k) = true := rfl
end G
namespace K97
open G
theorem hot_Kk (k : Kk) : hotD (dKk k) = true := rfl
section
variable {S : Store} {q : Nat} {kvs : List (Kk × Int)}
theorem setAt_Kk (h : S[q]? = some (.dicT (dKV kvs))) (k : Kk) (v : Int) (hl : kvs.length ≤ 1000) : setAt S (.ref q) (dKk k) (.int v) = some (S.set q (.dicT (dKV (putI k v kvs)))) := by
  have nb : Nat.blt (dKV kvs).length 10000000 = true := by simp [dKV, Nat.blt_eq]; omega
  simp only [setAt, h, isKeyT_Kk, hot_Kk, nb, Bool.and_self, if_pos rfl, dput_Kk]
  rfl
theorem bIx_Kk (h : S[q]? = some (.dicT (dKV kvs))) (k : Kk) (hk : k ∈ kvs.map (·.1)) : bIx S (.ref q) (dKk k) = some (.int (lookV k kvs)) := by
  simp only [bIx, dicAt, h, isKeyT_Kk, if_pos rfl]
  exact dget_Kk k kvs hk
theorem bNotIn_Kk (h : S[q]? = some (.dicT (dKV kvs))) (k : Kk) : bNotIn S (dKk k) (.ref q) = some (.bl (!decide (k ∈ kvs.map (·.1)))) := by
  have e : dicAt S (.ref q) (dKk k) = some (dKV kvs) := by simp [dicAt, h, isKeyT_Kk]
  simp only [bNotIn, bIn, e, dget_Kk_some]
  rfl
theorem sorted_Kk (h : S[q]? = some (.dicT (dKV kvs))) (hl : kvs.length ≤ 1000) : fSorted S [.ref q] = some (.lst ((sortG ltK (kvs.map (·.1))).map dKk)) := by
  refine fSorted_of (enc := dKk) (lt := ltK) (fun x y => by simp [ltD, rkD, dKk, intsOf, ltK]) (fun x => by simp [isTI, dKk, intsOf]) (fun x => rfl) _ _ (kvs.map (·.1)) ?_ (by simpa using hl)
  simp [itemsOf, prsOf, h, dKV]
end
end K97
end

section
set_option Elab.async false
set_option linter.all false
set_option maxRecDepth 100000
set_option maxHeartbeats 4000000
/-! P28: bounds of a net, drawn. By an AI agent. -/
namespace G
theorem look_put (k : Kk) (v : Int) (kvs : List (Kk × Int)) : lookV k (putI k v kvs) = v ∧ k ∈ (putI k v kvs).map (·.1) := by
  unfold putI
  split
  · rename_i h
    obtain ⟨kv, hkv, hk⟩ := List.any_eq_true.mp h
    simp only [decide_eq_true_eq] at hk
    constructor
    · clear h
      induction kvs with
      | nil => cases hkv
      | cons x r ih =>
        simp only [List.map_cons, lookV]
        by_cases hx : x.1 = k
        · simp [hx]
        · have : kv ∈ r := by
            rcases List.mem_cons.mp hkv with h | h
            · exact (hx (h ▸ hk)).elim
            · exact h
          simp only [hx, if_false]
          exact ih this
    · exact List.mem_map.mpr ⟨(k, v), List.mem_map.mpr ⟨kv, hkv, by rw [if_pos hk, hk]⟩, rfl⟩
  · rename_i h
    constructor
    · have h' : ∀ kv ∈ kvs, kv.1 ≠ k := fun kv hkv e => h (List.any_eq_true.mpr ⟨kv, hkv, by simpa using e⟩)
      clear h
      induction kvs with
      | nil => simp [lookV]
      | cons x r ih =>
        simp only [List.cons_append, lookV]
        rw [if_neg (h' x List.mem_cons_self)]
        exact ih (fun kv hkv => h' kv (List.mem_cons_of_mem _ hkv))
    · simp
end G
namespace K97
open G
theorem law_bounds_w (S : Store) (d : Nat) (hd : d < S.length) (xs : List Int) (hx : xs.length ≤ 1000) (many count base : Int) (h1 : 3 ≤ many) (h2 : many ≤ 5) (h3 : 1 ≤ count) (h4 : count ≤ 5) (h5 : -10 ≤ base) (h6 : base ≤ 10) :
    ∃ (ys : List Int) (kvs : List (Kk × Int)), ys.length ≤ 1000 ∧ BD many kvs ∧ (kvs.length : Int) ≤ count ∧ fm__law_bounds [.ref d, .int many, .int count, .int base, .int 12] (Sd S d xs) = .ok (.tup ((bndS kvs).map dB)) (Sd S d ys ++ [.dicT (dKV kvs)]) := by
  obtain ⟨r0, x0, p0, p1, q0, t0⟩ := take_w S [.dicT []] d hd xs hx count (by omega)
  obtain ⟨env', S', g1, o6, o7, o8, ys, kvs, g2, g3, g4, g5, g6⟩ := goFor_inv (p := .nm 6) (body := sSeq (sPar [7, 8] (aCons (eCall fm__law_take (aCons (eVar 0) (aCons (eVar 1) aNil))) (aCons (eCall fm__law_take (aCons (eVar 0) (aCons (eVar 1) aNil))) aNil)))
    (sIf (tV (eBin bNe (eVar 7) (eVar 8))) (sSetT (.sub (eVar 5) (eTupZ (aCons (eVar 7) (aCons (eVar 8) aNil)))) (eBin bAdd (eVar 3) (eCall fm__law_take (aCons (eVar 0) (aCons (eVar 4) aNil))))) sNil)) D.int
    (fun i env S' => ∃ (o6 o7 o8 : Option D) (ys : List Int) (kvs : List (Kk × Int)), env = [some (.ref d), some (.int many), some (.int count), some (.int base), some (.int 12), some (.ref S.length), o6, o7, o8, none] ∧ S' = Sd S d ys ++ [.dicT (dKV kvs)] ∧ ys.length ≤ 1000 ∧ BD many kvs ∧ kvs.length ≤ i)
    (rgIJ 0 (1 + r0)) [some (.ref d), some (.int many), some (.int count), some (.int base), some (.int 12), some (.ref S.length), none, none, none, none] (Sd S d x0 ++ [.dicT []]) ⟨none, none, none, x0, [], rfl, rfl, q0, ⟨by simp, by simp⟩, by simp⟩ (by
      rintro j env S' y hy hj ⟨o6, o7, o8, ys, kvs, rfl, rfl, hys, hb, hl⟩
      have hj2 := (List.getElem?_eq_some_iff.mp hj).1
      rw [rgIJ_len] at hj2
      obtain ⟨r1, z1, a1, a2, q1, t1⟩ := take_w S [.dicT (dKV kvs)] d hd ys hys many (by omega)
      obtain ⟨r2, z2, b1, b2, q2, t2⟩ := take_w S [.dicT (dKV kvs)] d hd z1 q1 many (by omega)
      by_cases hne : r1 = r2
      · refine ⟨[some (.ref d), some (.int many), some (.int count), some (.int base), some (.int 12), some (.ref S.length), some (.int y), o7, o8, none], [some (.ref d), some (.int many), some (.int count), some (.int base), some (.int 12), some (.ref S.length), some (.int y), some (.int r1), some (.int r2), none], Sd S d z2 ++ [.dicT (dKV kvs)], by simp, ?_, some (.int y), some (.int r1), some (.int r2), z2, kvs, rfl, rfl, q2, hb, by omega⟩
        simp [t1, t2, hne]
      · obtain ⟨r3, z3, c1, c2, q3, t3⟩ := take_w S [.dicT (dKV kvs)] d hd z2 q2 12 (by omega)
        have sa := setAt_Kk (S := Sd S d z3 ++ [.dicT (dKV kvs)]) (q := S.length) (kvs := kvs) (by rw [Sd_loc0]; rfl) (r1, r2) (base + r3) (by omega)
        have st := Sd_setL S [.dicT (dKV kvs)] d 0 z3 (.dicT (dKV (putI (r1, r2) (base + r3) kvs)))
        rw [Nat.add_zero] at st
        rw [st] at sa
        have hbp := hb.put r1 r2 (base + r3) ⟨a1, a2, b1, b2, hne, by omega, by omega⟩
        have hbl := putI_len (r1, r2) (base + r3) kvs
        generalize putI (r1, r2) (base + r3) kvs = kvs' at *
        refine ⟨[some (.ref d), some (.int many), some (.int count), some (.int base), some (.int 12), some (.ref S.length), some (.int y), o7, o8, none], [some (.ref d), some (.int many), some (.int count), some (.int base), some (.int 12), some (.ref S.length), some (.int y), some (.int r1), some (.int r2), none], Sd S d z3 ++ [.dicT (dKV kvs')], by simp, ?_, some (.int y), some (.int r1), some (.int r2), z3, kvs', rfl, rfl, q3, hbp, by omega⟩
        simp only [dKk] at sa
        simp [t1, t2, hne, sSetT, t3, setT, sa])
  rw [rgIJ_len] at g6
  refine ⟨ys, kvs, g4, g5, by omega, ?_⟩
  refine fnR_as rfl ?_
  subst g2 g3
  have it : iRange1 (eBin bAdd (eC (.int 1)) (eCall fm__law_take (aCons (eVar 0) (aCons (eVar 2) aNil)))) [some (.ref d), some (.int many), some (.int count), some (.int base), some (.int 12), some (.ref S.length), none, none, none, none] (Sd S d xs ++ [.dicT []]) = .ok ((rgIJ 0 (1 + r0)).map D.int) (Sd S d x0 ++ [.dicT []]) := by
    have : eBin bAdd (eC (.int 1)) (eCall fm__law_take (aCons (eVar 0) (aCons (eVar 2) aNil))) [some (.ref d), some (.int many), some (.int count), some (.int base), some (.int 12), some (.ref S.length), none, none, none, none] (Sd S d xs ++ [.dicT []]) = .ok (.int (1 + r0)) (Sd S d x0 ++ [.dicT []]) := by simp [t0]
    rw [iRange1_ev, this, bnd_ok]
    exact rg1_i _ _ (by omega) (by omega)
  have fst : sSet (.nm 5) eNewT (envOf 10 [.ref d, .int many, .int count, .int base, .int 12]) (Sd S d xs) = .nx [some (.ref d), some (.int many), some (.int count), some (.int base), some (.int 12), some (.ref S.length), none, none, none, none] (Sd S d xs ++ [.dicT []]) := by
    simp [envOf, Sd_len, eNewT]
  have gq : (Sd S d ys ++ [SO.dicT (dKV kvs)])[S.length]? = some (.dicT (dKV kvs)) := by rw [Sd_loc0]; rfl
  have so := sorted_Kk gq (by omega)
  have c1 : goLc [9] (.nm 9) G.tYes (eTupZ (aCons (eBin bIx (eVar 9) (eC (.int 0))) (aCons (eBin bIx (eVar 9) (eC (.int 1))) (aCons (eBin bIx (eVar 5) (eVar 9)) aNil)))) [some (.ref d), some (.int many), some (.int count), some (.int base), some (.int 12), some (.ref S.length), o6, o7, o8, none] ((sortG ltK (kvs.map (·.1))).map dKk) [] (Sd S d ys ++ [.dicT (dKV kvs)]) = .ok (.lst ((bndS kvs).map dB)) (Sd S d ys ++ [.dicT (dKV kvs)]) := by
    rw [bndS, List.map_map]
    refine goLc_all dKk _ _ (fun k hk => ⟨_, by simp [wipeE]; rfl, ?_⟩) (by rw [sortG_len, List.length_map]; omega)
    have hk2 : k ∈ kvs.map (·.1) := (sortG_perm _ _).mem_iff.mp hk
    have hb := bIx_Kk gq k hk2
    have h0 : ∀ S, bIx S (dKk k) (.int 0) = some (.int k.1) := fun S => by simp [dKk]
    have h1 : ∀ S, bIx S (dKk k) (.int 1) = some (.int k.2) := fun S => by simp [dKk]
    have hz : dKk k ≠ .err := fun z => nomatch z
    simp [h0, h1, hb, hz]
    rfl
  refine (congrArg ofO2 (seq_nx fst (seq_nx (by rw [sFor_ev, it]; exact g1) (o := .rt (.tup ((bndS kvs).map dB)) (Sd S d ys ++ [.dicT (dKV kvs)])) (by simp [so, c1])))).trans rfl
theorem law_couple_w (S : Store) (d : Nat) (hd : d < S.length) (xs : List Int) (hx : xs.length ≤ 1000) (kvs : List (Kk × Int)) (many : Int) (hb : BD many kvs) (hk : kvs.length ≤ 100) (l : La) (e : Int) (h1 : 0 ≤ e) (h2 : e < many) (h3 : 0 ≤ l.2.2.2) (h4 : l.2.2.2 < many) (h5 : l.2.2.2 ≠ e) (h6 : 1 ≤ l.2.1) (h7 : l.2.1 ≤ l.2.2.1) (h8 : l.2.2.1 ≤ 10) :
    ∃ (ys : List Int) (kvs' : List (Kk × Int)), ys.length ≤ 1000 ∧ BD many kvs' ∧ kvs'.length ≤ kvs.length + 2 ∧ fm__law_couple [.ref d, .ref S.length, dL l, .int e] (Sd S d xs ++ [.dicT (dKV kvs)]) = .ok .non (Sd S d ys ++ [.dicT (dKV kvs')]) := by
  obtain ⟨a, lo, hi, c⟩ := l
  simp only at h3 h4 h5 h6 h7 h8
  obtain ⟨r0, x0, p0, p1, q0, t0⟩ := take_w S [.dicT (dKV kvs)] d hd xs hx 6 (by omega)
  obtain ⟨r1, x1, p2, p3, q1, t1⟩ := take_w S [.dicT (dKV kvs)] d hd x0 q0 lo (by omega)
  have sa : ∀ z kvs' (k : Kk) v, kvs'.length ≤ 1000 → setAt (Sd S d z ++ [.dicT (dKV kvs')]) (.ref S.length) (.tup [.int k.1, .int k.2]) (.int v) = some (Sd S d z ++ [.dicT (dKV (putI k v kvs'))]) := fun z kvs' k v hl => by
    have h := setAt_Kk (S := Sd S d z ++ [.dicT (dKV kvs')]) (q := S.length) (kvs := kvs') (by rw [Sd_loc0]; rfl) k v hl
    have st := Sd_setL S [.dicT (dKV kvs')] d 0 z (.dicT (dKV (putI k v kvs')))
    rw [Nat.add_zero] at st
    rw [st] at h
    exact h
  have two : ∀ v1 v2 : Int, -100000 ≤ v1 → v1 ≤ 100000 → -100000 ≤ v2 → v2 ≤ 100000 → BD many (putI (e, c) v2 (putI (c, e) v1 kvs)) ∧ (putI (e, c) v2 (putI (c, e) v1 kvs)).length ≤ kvs.length + 2 ∧ (putI (c, e) v1 kvs).length ≤ 1000 := fun v1 v2 b1 b2 b3 b4 => by
    have l1 := putI_len (c, e) v1 kvs
    have l2 := putI_len (e, c) v2 (putI (c, e) v1 kvs)
    exact ⟨(hb.put c e v1 ⟨h3, h4, h1, h2, h5, b1, b2⟩).put e c v2 ⟨h1, h2, h3, h4, Ne.symm h5, b3, b4⟩, by omega, by omega⟩
  have fst : ∀ S', sSet (.tp [.nm 4, .nm 5, .nm 6, .nm 7]) (eVar 2) (envOf 10 [.ref d, .ref S.length, dL (a, lo, hi, c), .int e]) S' = .nx [some (.ref d), some (.ref S.length), some (dL (a, lo, hi, c)), some (.int e), some (.int a), some (.int lo), some (.int hi), some (.int c), none, none] S' := fun S' => by
    simp [envOf]
    simp [dL]
  have snd : sPar [8, 9] (aCons (eCall fm__law_take (aCons (eVar 0) (aCons (eC (.int 6)) aNil))) (aCons (eBin bAdd (eC (.int 1)) (eCall fm__law_take (aCons (eVar 0) (aCons (eVar 5) aNil)))) aNil)) [some (.ref d), some (.ref S.length), some (dL (a, lo, hi, c)), some (.int e), some (.int a), some (.int lo), some (.int hi), some (.int c), none, none] (Sd S d xs ++ [.dicT (dKV kvs)]) = .nx [some (.ref d), some (.ref S.length), some (dL (a, lo, hi, c)), some (.int e), some (.int a), some (.int lo), some (.int hi), some (.int c), some (.int r0), some (.int (1 + r1))] (Sd S d x1 ++ [.dicT (dKV kvs)]) := by
    simp [t0, t1]
  by_cases c0 : r0 = 0
  · obtain ⟨r2, x2, p4, p5, q2, t2⟩ := take_w S [.dicT (dKV kvs)] d hd x1 q1 (mx 1 (hi - lo)) (by unfold mx; split <;> omega)
    have hmx : mx 1 (hi - lo) ≤ 10 := by unfold mx; split <;> omega
    obtain ⟨b1, b2, b3⟩ := two (0 - (1 + r1)) (1 + r1 + r2) (by omega) (by omega) (by omega) (by omega)
    have s1 := sa x2 kvs (c, e) (0 - (1 + r1)) (by omega)
    have s2 := sa x2 (putI (c, e) (0 - (1 + r1)) kvs) (e, c) (1 + r1 + r2) b3
    generalize putI (e, c) (1 + r1 + r2) (putI (c, e) (0 - (1 + r1)) kvs) = kvs2 at *
    generalize putI (c, e) (0 - (1 + r1)) kvs = kvs1 at *
    simp only at s1 s2
    refine ⟨x2, kvs2, q2, b1, b2, ?_⟩
    refine fnR_as rfl ?_
    refine (congrArg ofO2 (seq_nx (fst _) (seq_nx snd (o := .nx [some (.ref d), some (.ref S.length), some (dL (a, lo, hi, c)), some (.int e), some (.int a), some (.int lo), some (.int hi), some (.int c), some (.int r0), some (.int (1 + r1))] (Sd S d x2 ++ [.dicT (dKV kvs2)])) ?_))).trans rfl
    simp only [sIf_ev, sSetT, tV_ev, eBin_ev, eC_ev, aCons_ev, aNil_ev, eTupZ_ev, eCall_ev, eBuilt_ev]
    simp [-Int.zero_sub, c0, t2, setT, setTs, s1, s2]
  · by_cases c1 : r0 = 1
    · obtain ⟨r2, x2, p4, p5, q2, t2⟩ := take_w S [.dicT (dKV kvs)] d hd x1 q1 3 (by omega)
      obtain ⟨b1, b2, b3⟩ := two (0 - (1 + r1)) (1 + r1 + hi - lo + r2) (by omega) (by omega) (by omega) (by omega)
      have s1 := sa x2 kvs (c, e) (0 - (1 + r1)) (by omega)
      have s2 := sa x2 (putI (c, e) (0 - (1 + r1)) kvs) (e, c) (1 + r1 + hi - lo + r2) b3
      generalize putI (e, c) (1 + r1 + hi - lo + r2) (putI (c, e) (0 - (1 + r1)) kvs) = kvs2 at *
      generalize putI (c, e) (0 - (1 + r1)) kvs = kvs1 at *
      simp only at s1 s2
      refine ⟨x2, kvs2, q2, b1, b2, ?_⟩
      refine fnR_as rfl ?_
      refine (congrArg ofO2 (seq_nx (fst _) (seq_nx snd (o := .nx [some (.ref d), some (.ref S.length), some (dL (a, lo, hi, c)), some (.int e), some (.int a), some (.int lo), some (.int hi), some (.int c), some (.int r0), some (.int (1 + r1))] (Sd S d x2 ++ [.dicT (dKV kvs2)])) ?_))).trans rfl
      simp only [sIf_ev, sSetT, tV_ev, eBin_ev, eC_ev, aCons_ev, aNil_ev, eTupZ_ev, eCall_ev, eBuilt_ev]
      simp [-Int.zero_sub, c1, t2, setT, setTs, s1, s2]
    · by_cases c2 : r0 = 2
      · obtain ⟨r2, x2, p4, p5, q2, t2⟩ := take_w S [.dicT (dKV kvs)] d hd x1 q1 4 (by omega)
        obtain ⟨r3, x3, p6, p7, q3, t3⟩ := take_w S [.dicT (dKV kvs)] d hd x2 q2 4 (by omega)
        obtain ⟨b1, b2, b3⟩ := two r2 r3 (by omega) (by omega) (by omega) (by omega)
        have s1 := sa x3 kvs (c, e) r2 (by omega)
        have s2 := sa x3 (putI (c, e) r2 kvs) (e, c) r3 b3
        generalize putI (e, c) r3 (putI (c, e) r2 kvs) = kvs2 at *
        generalize putI (c, e) r2 kvs = kvs1 at *
        simp only at s1 s2
        refine ⟨x3, kvs2, q3, b1, b2, ?_⟩
        refine fnR_as rfl ?_
        refine (congrArg ofO2 (seq_nx (fst _) (seq_nx snd (o := .nx [some (.ref d), some (.ref S.length), some (dL (a, lo, hi, c)), some (.int e), some (.int a), some (.int lo), some (.int hi), some (.int c), some (.int r0), some (.int (1 + r1))] (Sd S d x3 ++ [.dicT (dKV kvs2)])) ?_))).trans rfl
        simp only [sIf_ev, sSetT, tV_ev, eBin_ev, eC_ev, aCons_ev, aNil_ev, eTupZ_ev, eCall_ev, eBuilt_ev]
        simp [-Int.zero_sub, c2, t2, t3, setT, setTs, s1, s2]
      · by_cases c3 : r0 = 3
        · obtain ⟨r2, x2, p4, p5, q2, t2⟩ := take_w S [.dicT (dKV kvs)] d hd x1 q1 3 (by omega)
          have s1 := sa x2 kvs (e, c) (0 - r2) (by omega)
          have l1 := putI_len (e, c) (0 - r2) kvs
          have lk := look_put (e, c) (0 - r2) kvs
          have hb1 := hb.put e c (0 - r2) ⟨h1, h2, h3, h4, Ne.symm h5, by omega, by omega⟩
          generalize putI (e, c) (0 - r2) kvs = kvs1 at *
          obtain ⟨r3, x3, p6, p7, q3, t3⟩ := take_w S [.dicT (dKV kvs1)] d hd x2 q2 3 (by omega)
          have s2 := sa x3 kvs1 (c, e) (r3 - (0 - r2)) (by omega)
          have l2 := putI_len (c, e) (r3 - (0 - r2)) kvs1
          have hb2 := hb1.put c e (r3 - (0 - r2)) ⟨h3, h4, h1, h2, h5, by omega, by omega⟩
          generalize putI (c, e) (r3 - (0 - r2)) kvs1 = kvs2 at *
          have bx := bIx_Kk (S := Sd S d x3 ++ [.dicT (dKV kvs1)]) (q := S.length) (kvs := kvs1) (by rw [Sd_loc0]; rfl) (e, c) lk.2
          rw [lk.1] at bx
          simp only [dKk] at s1 s2 bx
          refine ⟨x3, kvs2, q3, hb2, by omega, ?_⟩
          refine fnR_as rfl ?_
          refine (congrArg ofO2 (seq_nx (fst _) (seq_nx snd (o := .nx [some (.ref d), some (.ref S.length), some (dL (a, lo, hi, c)), some (.int e), some (.int a), some (.int lo), some (.int hi), some (.int c), some (.int r0), some (.int (1 + r1))] (Sd S d x3 ++ [.dicT (dKV kvs2)])) ?_))).trans rfl
          simp only [sIf_ev, sSetT, tV_ev, eBin_ev, eC_ev, aCons_ev, aNil_ev, eTupZ_ev, eCall_ev, eBuilt_ev]
          simp [-Int.zero_sub, -Int.sub_neg, c3, t2, sSetT, setT, setTs, s1, t3, bx, s2]
        · by_cases c4 : r0 = 4
          · obtain ⟨r2, x2, p4, p5, q2, t2⟩ := take_w S [.dicT (dKV kvs)] d hd x1 q1 hi (by omega)
            have s1 := sa x2 kvs (e, c) r2 (by omega)
            have l1 := putI_len (e, c) r2 kvs
            have hb1 := hb.put e c r2 ⟨h1, h2, h3, h4, Ne.symm h5, by omega, by omega⟩
            generalize putI (e, c) r2 kvs = kvs1 at *
            simp only at s1
            refine ⟨x2, kvs1, q2, hb1, by omega, ?_⟩
            refine fnR_as rfl ?_
            refine (congrArg ofO2 (seq_nx (fst _) (seq_nx snd (o := .nx [some (.ref d), some (.ref S.length), some (dL (a, lo, hi, c)), some (.int e), some (.int a), some (.int lo), some (.int hi), some (.int c), some (.int r0), some (.int (1 + r1))] (Sd S d x2 ++ [.dicT (dKV kvs1)])) ?_))).trans rfl
            simp only [sIf_ev, sSetT, tV_ev, eBin_ev, eC_ev, aCons_ev, aNil_ev, eTupZ_ev, eCall_ev, eBuilt_ev]
            simp [-Int.zero_sub, c4, t2, setT, setTs, s1]
          · refine ⟨x1, kvs, q1, hb, by omega, ?_⟩
            refine fnR_as rfl ?_
            refine (congrArg ofO2 (seq_nx (fst _) (seq_nx snd (o := .nx [some (.ref d), some (.ref S.length), some (dL (a, lo, hi, c)), some (.int e), some (.int a), some (.int lo), some (.int hi), some (.int c), some (.int r0), some (.int (1 + r1))] (Sd S d x1 ++ [.dicT (dKV kvs)])) ?_))).trans rfl
            simp only [sIf_ev, tV_ev, eBin_ev, eC_ev]
            simp [c0, c1, c2, c3, c4]
end K97
end

section
set_option Elab.async false
set_option linter.all false
set_option maxRecDepth 100000
set_option maxHeartbeats 4000000
/-! P29: a net, drawn. By an AI agent. -/
namespace G
def mn (a b : Int) : Int := if b < a then b else a
@[simp] theorem fMin_i (S : Store) (a b : Int) : fMin S [.int a, .int b] = some (.int (mn a b)) := rfl
def posI (x : Int) : List Int → Nat
  | [] => 0
  | y :: r => if y = x then 0 else posI x r + 1
theorem posI_get : ∀ (l : List Int) (i : Nat) (x : Int), l.Nodup → l[i]? = some x → posI x l = i
  | [], i, x, _, h => by simp at h
  | y :: r, 0, x, _, h => by simp at h; simp [posI, h]
  | y :: r, i + 1, x, hn, h => by
    have hn2 := List.nodup_cons.mp hn
    simp only [List.getElem?_cons_succ] at h
    have hy : y ≠ x := fun e => hn2.1 (e ▸ List.mem_of_getElem? h)
    simp only [posI, hy, if_false, posI_get r i x hn2.2 h]
theorem nodup_of_map {α β : Type} (f : α → β) : ∀ {l : List α}, (l.map f).Nodup → l.Nodup
  | [], _ => List.Pairwise.nil
  | x :: r, h => by
    simp only [List.map_cons, List.nodup_cons] at h
    exact List.nodup_cons.mpr ⟨fun hx => h.1 (List.mem_map.mpr ⟨x, hx, rfl⟩), nodup_of_map f h.2⟩
theorem bIx_lsti (S : Store) (xs : List Int) (i : Int) {k : Nat} {y : Int} (hk : i = k) (hy : xs[k]? = some y) : bIx S (.lst (xs.map D.int)) (.int i) = some (.int y) := by
  rw [hk, bIx_lst, atD_nat, List.getElem?_map, hy]; rfl
theorem order_ok {ord : List Int} {many : Int} (hp : ord.Perm (0 :: rgIJ 1 many)) (hh : ord.head? = some 0) : ord.Nodup ∧ (∀ (a : Nat) (x : Int), ord[a]? = some x → 0 ≤ x ∧ x < mx 1 many) ∧ (∀ (b : Nat) (x : Int), 0 < b → ord[b]? = some x → 1 ≤ x ∧ x < many) := by
  have h0 : (0 :: rgIJ 1 many).Nodup := by
    refine List.nodup_cons.mpr ⟨fun z => by have := mem_rgIJ.mp z; omega, ?_⟩
    simp only [rgIJ, rgI]
    rw [List.nodup_iff_pairwise_ne, List.pairwise_map]
    exact List.nodup_range.imp (fun h e => h (by omega))
  have hn : ord.Nodup := hp.nodup_iff.mpr h0
  refine ⟨hn, fun a x h => ?_, fun b x hb h => ?_⟩
  · have hm := hp.mem_iff.mp (List.mem_of_getElem? h)
    rcases List.mem_cons.mp hm with rfl | hm
    · unfold mx; split <;> omega
    · have := mem_rgIJ.mp hm
      unfold mx; split <;> omega
  · have hm := hp.mem_iff.mp (List.mem_of_getElem? h)
    rcases List.mem_cons.mp hm with rfl | hm
    · exfalso
      have h1 := posI_get ord b 0 hn h
      have h2 : ord[0]? = some 0 := by rw [← List.head?_eq_getElem?]; exact hh
      have h3 := posI_get ord 0 0 hn h2
      omega
    · exact mem_rgIJ.mp hm
theorem lasS_perm (ls : List La) : (lasS ls).Perm ls := sortG_perm _ _
/-- a drawn net is a net -/
theorem drawn_net {many : Int} (h1 : 3 ≤ many) (h2 : many ≤ 5) {ord : List Int} (hp : ord.Perm (0 :: rgIJ 1 many)) (hh : ord.head? = some 0) {ls : List La} (hl : ∀ l ∈ ls, OkLa ord (ord.length - 1) l) (hl2 : ls.length ≤ 5) (hn : (ls.map fun l => l.2.2.2).Nodup) {kvs : List (Kk × Int)} (hb : BD many kvs) (hb2 : kvs.length ≤ 60) :
    WN ⟨many, bndS kvs, lasS ls⟩ := by
  obtain ⟨o1, o2, o3⟩ := order_ok hp hh
  obtain ⟨b1, b2, b3⟩ := bndS_ok hb
  have hm : mx 1 many = many := by unfold mx; split <;> omega
  refine ⟨by rw [inR_iff]; simp only; omega, by simp only; omega, ?_, b3, by rw [lasS, sortG_len]; exact hl2, ?_, ?_, ?_, ?_⟩
  · rw [List.all_eq_true]
    intro b hbm
    have := b1 b hbm
    simp only [okB, Bool.and_eq_true, inR_iff, Bool.not_eq_true', decide_eq_false_iff_not]
    refine ⟨by omega, by omega, this.2.2.2.2.1, by omega⟩
  · rw [List.all_eq_true]
    intro l hlm
    obtain ⟨a, b, p1, p2, p3, p4, p5, p6, p7⟩ := hl l ((lasS_perm ls).mem_iff.mp hlm)
    have q1 := o2 a _ p3
    have q2 := o3 b _ (by omega) p4
    have q3 : l.1 ≠ l.2.2.2 := fun e => by
      have r1 := posI_get ord a _ o1 p3
      have r2 := posI_get ord b _ o1 p4
      rw [e] at r1; omega
    simp only [okL, Bool.and_eq_true, inR_iff, Bool.not_eq_true', decide_eq_false_iff_not, decide_eq_true_eq]
    refine ⟨by omega, by omega, by omega, by omega, by omega, q3⟩
  · exact riseT _ (sortT_pw tot_lL ls (nodup_of_map _ hn))
  · exact ((lasS_perm ls).map _).nodup_iff.mpr hn
  · refine ⟨fun e => posI e ord, fun l hlm => ?_⟩
    obtain ⟨a, b, p1, p2, p3, p4, _⟩ := hl l ((lasS_perm ls).mem_iff.mp hlm)
    simp only [posI_get ord a _ o1 p3, posI_get ord b _ o1 p4]
    exact p1
end G
namespace K97
open G
theorem law_net_w (S : Store) (d : Nat) (hd : d < S.length) (xs : List Int) (hx : xs.length ≤ 1000) :
    ∃ (n : Nt) (ys : List Int) (L : Store), WN n ∧ 3 ≤ n.many ∧ n.many ≤ 5 ∧ ys.length ≤ 1000 ∧ fm__law_net [.ref d, .int 3, .int 5, .int 3] (Sd S d xs) = .ok (dN n) (Sd S d ys ++ L) := by
  obtain ⟨r0, x0, p0, p1, q0, t0⟩ := take_w S [] d hd xs hx 3 (by omega)
  rw [List.append_nil, List.append_nil] at t0
  generalize hM : 3 + r0 = many
  have h1 : 3 ≤ many := by omega
  have h2 : many ≤ 5 := by omega
  obtain ⟨x1, ord, q1, hp, hh, t1⟩ := law_order_w S d hd x0 q0 many h1 h2
  obtain ⟨o1, o2, o3⟩ := order_ok hp hh
  have hol : ord.length = (many - 1).toNat + 1 := by rw [hp.length_eq, List.length_cons, rgIJ_len]
  rw [Sd_app S _ d x1 hd] at t1
  have hS1 : (S ++ [SO.lst [], .lst (ord.map D.int)])[S.length + 1]? = some (.lst (ord.map D.int)) := by simp
  have hl1 : (S ++ [SO.lst [], .lst (ord.map D.int)]).length = S.length + 2 := by simp
  have hpre1 : ∃ U, S ++ [SO.lst [], .lst (ord.map D.int)] = S ++ U := ⟨_, rfl⟩
  generalize S ++ [SO.lst [], .lst (ord.map D.int)] = S1 at *
  obtain ⟨x2, ls, q2, hls, hlim, hl5, hnd, t2⟩ := law_lasts_w S1 d (S.length + 1) (by omega) (by omega) (by omega) ord hS1 (by omega) (by omega) o1 x1 q1 (mn 3 (mx 1 (many - 2))) (by unfold mn mx; split <;> split <;> omega)
  rw [Sd_app S1 _ d x2 (by omega)] at t2
  have hl2 : (S1 ++ [SO.lst (ls.map dL)]).length = S1.length + 1 := by simp
  have hS2 : ∃ U, S1 ++ [SO.lst (ls.map dL)] = S1 ++ U := ⟨_, rfl⟩
  generalize hS2e : S1 ++ [SO.lst (ls.map dL)] = S2 at *
  have hlsok : ∀ l ∈ ls, 1 ≤ l.2.2.2 ∧ l.2.2.2 < many ∧ 1 ≤ l.2.1 ∧ l.2.1 ≤ l.2.2.1 ∧ l.2.2.1 ≤ 10 := fun l hl => by
    obtain ⟨a, b, p1, p2, p3, p4, p5, p6, p7⟩ := hls l hl
    have := o3 b _ (by omega) p4
    exact ⟨this.1, this.2, p5, p6, p7⟩
  generalize hLS : lasS ls = LS at *
  have hLSm : ∀ l, l ∈ LS ↔ l ∈ ls := fun l => by rw [← hLS]; exact (lasS_perm ls).mem_iff
  have hLSl : LS.length = ls.length := by rw [← hLS]; exact (lasS_perm ls).length_eq
  generalize hE : (LS.map fun l => l.2.2.2) = E
  generalize hO : ((rgIJ 1 many).filter fun e => !decide (e ∈ E)) = O
  have hOm : ∀ e ∈ O, 1 ≤ e ∧ e < many ∧ e ∉ E := fun e he => by
    rw [← hO] at he
    have h := List.mem_filter.mp he
    have h3 := mem_rgIJ.mp h.1
    exact ⟨h3.1, h3.2, by simpa using h.2⟩
  have c6 : ∀ S', goLc [7] (.nm 7) G.tYes (eBin bIx (eVar 7) (eC (.int 3))) [some (.ref d), some (.int 3), some (.int 5), some (.int 3), some (.int many), some (.tup (LS.map dL)), none, none, none, none, none, none, none, none, none] (LS.map dL) [] S' = .ok (.lst (E.map D.int)) S' := fun S' => by
    rw [← hE, List.map_map]
    refine goLc_all dL _ LS (fun x hx => ⟨_, by simp [wipeE]; rfl, ?_⟩) (by omega)
    simp [dL]
  have c13 : ∀ S', goLc [13] (.nm 13) (tV (eBin bNotIn (eVar 13) (eVar 6))) (eVar 13) [some (.ref d), some (.int 3), some (.int 5), some (.int 3), some (.int many), some (.tup (LS.map dL)), some (.lst (E.map D.int)), none, none, none, none, none, none, none, none] ((rgIJ 1 many).map D.int) [] S' = .ok (.lst (O.map D.int)) S' := fun S' => by
    rw [goLc_enc D.int (fun e => !decide (e ∈ E)) D.int (rgIJ 1 many) [] (fun x hx => ⟨_, by simp [wipeE]; rfl, ?_, fun _ => ?_⟩) (by simp [rgIJ_len]; omega)]
    · rw [List.nil_append, hO]
    · have := bNotIn_lst S' x E
      simp [this]
    · simp
  have rO := fun S' => rg2_i 1 many S' (by omega) (by omega) (by omega) (by omega)
  have s4 : sSet (.nm 4) (eBin bAdd (eVar 1) (eCall fm__law_take (aCons (eVar 0) (aCons (eBin bAdd (eBin bSub (eVar 2) (eVar 1)) (eC (.int 1))) aNil)))) (envOf 15 [.ref d, .int 3, .int 5, .int 3]) (Sd S d xs) = .nx [some (.ref d), some (.int 3), some (.int 5), some (.int 3), some (.int many), none, none, none, none, none, none, none, none, none, none] (Sd S d x0) := by
    simp [envOf, t0, hM]
  have s5 : sSet (.nm 5) (eCall fm__law_lasts (aCons (eVar 0) (aCons (eCall fm__law_order (aCons (eVar 0) (aCons (eVar 4) aNil))) (aCons (eBuilt fMin (aCons (eVar 3) (aCons (eBuilt fMax (aCons (eC (.int 1)) (aCons (eBin bSub (eVar 4) (eC (.int 2))) aNil))) aNil))) (aCons (eC (.int 4)) aNil))))) [some (.ref d), some (.int 3), some (.int 5), some (.int 3), some (.int many), none, none, none, none, none, none, none, none, none, none] (Sd S d x0) = .nx [some (.ref d), some (.int 3), some (.int 5), some (.int 3), some (.int many), some (.tup (LS.map dL)), none, none, none, none, none, none, none, none, none] (Sd S2 d x2) := by
    simp [t1, t2]
  have s6 : sSet (.nm 6) (eLc [7] (.nm 7) (iSeq (eVar 5)) G.tYes (eBin bIx (eVar 7) (eC (.int 3)))) [some (.ref d), some (.int 3), some (.int 5), some (.int 3), some (.int many), some (.tup (LS.map dL)), none, none, none, none, none, none, none, none, none] (Sd S2 d x2) = .nx [some (.ref d), some (.int 3), some (.int 5), some (.int 3), some (.int many), some (.tup (LS.map dL)), some (.lst (E.map D.int)), none, none, none, none, none, none, none, none] (Sd S2 d x2) := by
    simp [c6]
  have s8 : sSet (.tp [.nm 8, .nm 9]) (eTupZ (aCons (eLc [13] (.nm 13) (iRange2 (eC (.int 1)) (eVar 4)) (tV (eBin bNotIn (eVar 13) (eVar 6))) (eVar 13)) (aCons eNewT aNil))) [some (.ref d), some (.int 3), some (.int 5), some (.int 3), some (.int many), some (.tup (LS.map dL)), some (.lst (E.map D.int)), none, none, none, none, none, none, none, none] (Sd S2 d x2) = .nx [some (.ref d), some (.int 3), some (.int 5), some (.int 3), some (.int many), some (.tup (LS.map dL)), some (.lst (E.map D.int)), none, some (.lst (O.map D.int)), some (.ref S2.length), none, none, none, none, none] (Sd S2 d x2 ++ [.dicT []]) := by
    simp [rO, c13, eNewT, Sd_len]
  -- the couples
  obtain ⟨env1, S1', g1, o7, x3, kvs, g2, g3, g4, g5, g6⟩ := goFor_inv (p := .nm 7) (body := (sIf (G.tAnd (tTr (eVar 8)) (tV (eBin bGt (eCall fm__law_take (aCons (eVar 0) (aCons (eC (.int 6)) aNil))) (eC (.int 0))))) (sExpr (eCall fm__law_couple (aCons (eVar 0) (aCons (eVar 9) (aCons (eVar 7) (aCons (eBin bIx (eVar 8) (eCall fm__law_take (aCons (eVar 0) (aCons (eBuilt fLen (aCons (eVar 8) aNil)) aNil)))) aNil)))))) sNil)) dL
    (fun i env S' => ∃ (o7 : Option D) (ys : List Int) (kvs : List (Kk × Int)), env = [some (.ref d), some (.int 3), some (.int 5), some (.int 3), some (.int many), some (.tup (LS.map dL)), some (.lst (E.map D.int)), o7, some (.lst (O.map D.int)), some (.ref S2.length), none, none, none, none, none] ∧ S' = Sd S2 d ys ++ [.dicT (dKV kvs)] ∧ ys.length ≤ 1000 ∧ BD many kvs ∧ kvs.length ≤ 2 * i)
    LS [some (.ref d), some (.int 3), some (.int 5), some (.int 3), some (.int many), some (.tup (LS.map dL)), some (.lst (E.map D.int)), none, some (.lst (O.map D.int)), some (.ref S2.length), none, none, none, none, none] (Sd S2 d x2 ++ [.dicT []]) ⟨none, x2, [], rfl, rfl, q2, ⟨by simp, by simp⟩, by simp⟩ (by
      rintro j env S' l hlm hj ⟨o7, ys, kvs, rfl, rfl, hys, hb, hk⟩
      have hj2 := (List.getElem?_eq_some_iff.mp hj).1
      have hl := hlsok l ((hLSm l).mp hlm)
      have hlE : l.2.2.2 ∈ E := by rw [← hE]; exact List.mem_map.mpr ⟨l, hlm, rfl⟩
      cases hO2 : O with
      | nil =>
        rw [hO2] at *
        refine ⟨[some (.ref d), some (.int 3), some (.int 5), some (.int 3), some (.int many), some (.tup (LS.map dL)), some (.lst (E.map D.int)), some (dL l), some (.lst (([] : List Int).map D.int)), some (.ref S2.length), none, none, none, none, none], [some (.ref d), some (.int 3), some (.int 5), some (.int 3), some (.int many), some (.tup (LS.map dL)), some (.lst (E.map D.int)), some (dL l), some (.lst (([] : List Int).map D.int)), some (.ref S2.length), none, none, none, none, none], Sd S2 d ys ++ [.dicT (dKV kvs)], by simp, by simp, some (dL l), ys, kvs, rfl, rfl, hys, hb, by omega⟩
      | cons ou or =>
        have hOp : 0 < O.length := by rw [hO2]; simp
        have htr : ∀ S', truD S' (.lst (O.map D.int)) = some true := fun S' => by rw [hO2]; rfl
        rw [← hO2]
        obtain ⟨r1, z1, a1, a2, b1, u1⟩ := take_w S2 [.dicT (dKV kvs)] d (by omega) ys hys 6 (by omega)
        by_cases hr : 0 < r1
        · obtain ⟨r2, z2, a3, a4, b2, u2⟩ := take_w S2 [.dicT (dKV kvs)] d (by omega) z1 b1 O.length (by omega)
          have hin : r2.toNat < O.length := by omega
          have hOr := hOm O[r2.toNat] (List.getElem_mem hin)
          have hne : l.2.2.2 ≠ O[r2.toNat] := fun e => hOr.2.2 (e ▸ hlE)
          have bx := bIx_lsti (Sd S2 d z2 ++ [.dicT (dKV kvs)]) O r2 (k := r2.toNat) (y := O[r2.toNat]) (by omega) (by simp [hin])
          obtain ⟨z3, kvs', b3, hb', hk', u3⟩ := law_couple_w S2 d (by omega) z2 b2 kvs many hb (by omega) l O[r2.toNat] (by omega) (by omega) (by omega) (by omega) hne (by omega) (by omega) (by omega)
          refine ⟨[some (.ref d), some (.int 3), some (.int 5), some (.int 3), some (.int many), some (.tup (LS.map dL)), some (.lst (E.map D.int)), some (dL l), some (.lst (O.map D.int)), some (.ref S2.length), none, none, none, none, none], [some (.ref d), some (.int 3), some (.int 5), some (.int 3), some (.int many), some (.tup (LS.map dL)), some (.lst (E.map D.int)), some (dL l), some (.lst (O.map D.int)), some (.ref S2.length), none, none, none, none, none], Sd S2 d z3 ++ [.dicT (dKV kvs')], by simp, ?_, some (dL l), z3, kvs', rfl, rfl, b3, hb', by omega⟩
          simp [-truD_lst, -bIx_lst, htr, u1, hr, u2, bx, u3]
        · refine ⟨[some (.ref d), some (.int 3), some (.int 5), some (.int 3), some (.int many), some (.tup (LS.map dL)), some (.lst (E.map D.int)), some (dL l), some (.lst (O.map D.int)), some (.ref S2.length), none, none, none, none, none], [some (.ref d), some (.int 3), some (.int 5), some (.int 3), some (.int many), some (.tup (LS.map dL)), some (.lst (E.map D.int)), some (dL l), some (.lst (O.map D.int)), some (.ref S2.length), none, none, none, none, none], Sd S2 d z1 ++ [.dicT (dKV kvs)], by simp, ?_, some (dL l), z1, kvs, rfl, rfl, b1, hb, by omega⟩
          simp [-truD_lst, htr, u1, hr])
  have s9 : sFor (.nm 7) (iSeq (eVar 5)) (sIf (G.tAnd (tTr (eVar 8)) (tV (eBin bGt (eCall fm__law_take (aCons (eVar 0) (aCons (eC (.int 6)) aNil))) (eC (.int 0))))) (sExpr (eCall fm__law_couple (aCons (eVar 0) (aCons (eVar 9) (aCons (eVar 7) (aCons (eBin bIx (eVar 8) (eCall fm__law_take (aCons (eVar 0) (aCons (eBuilt fLen (aCons (eVar 8) aNil)) aNil)))) aNil)))))) sNil) [some (.ref d), some (.int 3), some (.int 5), some (.int 3), some (.int many), some (.tup (LS.map dL)), some (.lst (E.map D.int)), none, some (.lst (O.map D.int)), some (.ref S2.length), none, none, none, none, none] (Sd S2 d x2 ++ [.dicT []]) = .nx env1 S1' := by
    have it : iSeq (eVar 5) [some (.ref d), some (.int 3), some (.int 5), some (.int 3), some (.int many), some (.tup (LS.map dL)), some (.lst (E.map D.int)), none, some (.lst (O.map D.int)), some (.ref S2.length), none, none, none, none, none] (Sd S2 d x2 ++ [.dicT []]) = .ok (LS.map dL) (Sd S2 d x2 ++ [.dicT []]) := by simp
    rw [sFor_ev, it]; exact g1
  rw [g2, g3] at s9
  -- the bounds
  obtain ⟨r5, x4, a5, a6, b5, u5⟩ := take_w S2 [.dicT (dKV kvs)] d (by omega) x3 g4 3 (by omega)
  have hdv : many / 3 = 1 := by omega
  obtain ⟨x5, kvs2, b6, hb2, hk2, u6⟩ := law_bounds_w (S2 ++ [.dicT (dKV kvs)]) d (by simp; omega) x4 b5 many (1 + 1) (r5 - 1) h1 h2 (by omega) (by omega) (by omega) (by omega)
  rw [← Sd_app S2 _ d x4 (by omega), ← Sd_app S2 _ d x5 (by omega), List.append_assoc] at u6
  obtain ⟨bk1, bk2, _⟩ := bndS_ok hb2
  have it2 : (iSeq (eCall fm__law_bounds (aCons (eVar 0) (aCons (eVar 4) (aCons (eBin bAdd (eC (.int 1)) (eBin bDiv (eVar 4) (eC (.int 3)))) (aCons (eBin bSub (eCall fm__law_take (aCons (eVar 0) (aCons (eC (.int 3)) aNil))) (eC (.int 1))) (aCons (eC (.int 12)) aNil))))))) [some (.ref d), some (.int 3), some (.int 5), some (.int 3), some (.int many), some (.tup (LS.map dL)), some (.lst (E.map D.int)), o7, some (.lst (O.map D.int)), some (.ref S2.length), none, none, none, none, none] (Sd S2 d x3 ++ [.dicT (dKV kvs)]) = .ok ((bndS kvs2).map dB) (Sd S2 d x5 ++ ([.dicT (dKV kvs)] ++ [.dicT (dKV kvs2)])) := by
    have bd : ∀ S', bDiv S' (.int many) (.int 3) = some (.int 1) := fun S' => by simp [bDiv, hdv]
    simp only [iSeq_ev, eCall_ev, aCons_ev, aNil_ev, eBin_ev, eC_ev]
    simp only [Int.reduceAdd] at u6
    simp [bd, u5, u6]
  obtain ⟨env2, S2', g7, o10, o11, o12, x6, kvs3, g8, g9, g10, g11, g12⟩ := goFor_inv (p := .tp [.nm 10, .nm 11, .nm 12]) (body := (sIf (G.tAnd (tV (eBin bNotIn (eTupZ (aCons (eVar 10) (aCons (eVar 11) aNil))) (eVar 9))) (tV (eBin bGt (eCall fm__law_take (aCons (eVar 0) (aCons (eC (.int 3)) aNil))) (eC (.int 0))))) (sSetT (.sub (eVar 9) (eTupZ (aCons (eVar 10) (aCons (eVar 11) aNil)))) (eVar 12)) sNil)) dB
    (fun i env S' => ∃ (o10 o11 o12 : Option D) (ys : List Int) (kvs' : List (Kk × Int)), env = [some (.ref d), some (.int 3), some (.int 5), some (.int 3), some (.int many), some (.tup (LS.map dL)), some (.lst (E.map D.int)), o7, some (.lst (O.map D.int)), some (.ref S2.length), o10, o11, o12, none, none] ∧ S' = Sd S2 d ys ++ ([.dicT (dKV kvs')] ++ [.dicT (dKV kvs2)]) ∧ ys.length ≤ 1000 ∧ BD many kvs' ∧ kvs'.length ≤ 10 + i)
    (bndS kvs2) [some (.ref d), some (.int 3), some (.int 5), some (.int 3), some (.int many), some (.tup (LS.map dL)), some (.lst (E.map D.int)), o7, some (.lst (O.map D.int)), some (.ref S2.length), none, none, none, none, none] (Sd S2 d x5 ++ ([.dicT (dKV kvs)] ++ [.dicT (dKV kvs2)])) ⟨none, none, none, x5, kvs, rfl, rfl, b6, g5, by omega⟩ (by
      rintro j env S' b hbm hj ⟨o10, o11, o12, ys, kvs', rfl, rfl, hys, hb, hk⟩
      have hj2 := (List.getElem?_eq_some_iff.mp hj).1
      have hbb := bk1 b hbm
      have gd : ∀ z, (Sd S2 d z ++ ([SO.dicT (dKV kvs')] ++ [.dicT (dKV kvs2)]))[S2.length]? = some (.dicT (dKV kvs')) := fun z => by rw [Sd_loc0]; rfl
      have bn := bNotIn_Kk (gd ys) (b.1, b.2.1)
      simp only [dKk] at bn
      by_cases hin : (b.1, b.2.1) ∈ kvs'.map (·.1)
      · refine ⟨[some (.ref d), some (.int 3), some (.int 5), some (.int 3), some (.int many), some (.tup (LS.map dL)), some (.lst (E.map D.int)), o7, some (.lst (O.map D.int)), some (.ref S2.length), some (.int b.1), some (.int b.2.1), some (.int b.2.2), none, none], [some (.ref d), some (.int 3), some (.int 5), some (.int 3), some (.int many), some (.tup (LS.map dL)), some (.lst (E.map D.int)), o7, some (.lst (O.map D.int)), some (.ref S2.length), some (.int b.1), some (.int b.2.1), some (.int b.2.2), none, none], Sd S2 d ys ++ ([.dicT (dKV kvs')] ++ [.dicT (dKV kvs2)]), by simp [dB], ?_, _, _, _, ys, kvs', rfl, rfl, hys, hb, by omega⟩
        have hd2 : decide ((b.1, b.2.1) ∈ kvs'.map (·.1)) = true := by simpa using hin
        rw [hd2] at bn
        simp only [List.cons_append, List.nil_append] at bn ⊢
        simp [bn]
      · have hd2 : decide ((b.1, b.2.1) ∈ kvs'.map (·.1)) = false := by simpa using hin
        rw [hd2] at bn
        obtain ⟨r1, z1, a1, a2, b1, u1⟩ := take_w S2 ([.dicT (dKV kvs')] ++ [.dicT (dKV kvs2)]) d (by omega) ys hys 3 (by omega)
        by_cases hr : 0 < r1
        · have sa := setAt_Kk (gd z1) (b.1, b.2.1) b.2.2 (by omega)
          have st := Sd_setL S2 ([.dicT (dKV kvs')] ++ [.dicT (dKV kvs2)]) d 0 z1 (.dicT (dKV (putI (b.1, b.2.1) b.2.2 kvs')))
          rw [Nat.add_zero] at st
          rw [st] at sa
          have hl1 := putI_len (b.1, b.2.1) b.2.2 kvs'
          have hbp := hb.put b.1 b.2.1 b.2.2 ⟨hbb.1, hbb.2.1, hbb.2.2.1, hbb.2.2.2.1, hbb.2.2.2.2.1, hbb.2.2.2.2.2.1, hbb.2.2.2.2.2.2⟩
          generalize putI (b.1, b.2.1) b.2.2 kvs' = kvs4 at *
          refine ⟨[some (.ref d), some (.int 3), some (.int 5), some (.int 3), some (.int many), some (.tup (LS.map dL)), some (.lst (E.map D.int)), o7, some (.lst (O.map D.int)), some (.ref S2.length), some (.int b.1), some (.int b.2.1), some (.int b.2.2), none, none], [some (.ref d), some (.int 3), some (.int 5), some (.int 3), some (.int many), some (.tup (LS.map dL)), some (.lst (E.map D.int)), o7, some (.lst (O.map D.int)), some (.ref S2.length), some (.int b.1), some (.int b.2.1), some (.int b.2.2), none, none], Sd S2 d z1 ++ ([.dicT (dKV kvs4)] ++ [.dicT (dKV kvs2)]), by simp [dB], ?_, _, _, _, z1, kvs4, rfl, rfl, b1, hbp, by omega⟩
          simp only [dKk] at sa
          simp only [List.cons_append, List.nil_append, List.set_cons_zero] at bn u1 sa ⊢
          simp [bn, u1, hr, sSetT, setT, sa]
        · refine ⟨[some (.ref d), some (.int 3), some (.int 5), some (.int 3), some (.int many), some (.tup (LS.map dL)), some (.lst (E.map D.int)), o7, some (.lst (O.map D.int)), some (.ref S2.length), some (.int b.1), some (.int b.2.1), some (.int b.2.2), none, none], [some (.ref d), some (.int 3), some (.int 5), some (.int 3), some (.int many), some (.tup (LS.map dL)), some (.lst (E.map D.int)), o7, some (.lst (O.map D.int)), some (.ref S2.length), some (.int b.1), some (.int b.2.1), some (.int b.2.2), none, none], Sd S2 d z1 ++ ([.dicT (dKV kvs')] ++ [.dicT (dKV kvs2)]), by simp [dB], ?_, _, _, _, z1, kvs', rfl, rfl, b1, hb, by omega⟩
          simp only [List.cons_append, List.nil_append] at bn u1 ⊢
          simp [bn, u1, hr])
  have s10 : sFor (.tp [.nm 10, .nm 11, .nm 12]) (iSeq (eCall fm__law_bounds (aCons (eVar 0) (aCons (eVar 4) (aCons (eBin bAdd (eC (.int 1)) (eBin bDiv (eVar 4) (eC (.int 3)))) (aCons (eBin bSub (eCall fm__law_take (aCons (eVar 0) (aCons (eC (.int 3)) aNil))) (eC (.int 1))) (aCons (eC (.int 12)) aNil))))))) (sIf (G.tAnd (tV (eBin bNotIn (eTupZ (aCons (eVar 10) (aCons (eVar 11) aNil))) (eVar 9))) (tV (eBin bGt (eCall fm__law_take (aCons (eVar 0) (aCons (eC (.int 3)) aNil))) (eC (.int 0))))) (sSetT (.sub (eVar 9) (eTupZ (aCons (eVar 10) (aCons (eVar 11) aNil)))) (eVar 12)) sNil) [some (.ref d), some (.int 3), some (.int 5), some (.int 3), some (.int many), some (.tup (LS.map dL)), some (.lst (E.map D.int)), o7, some (.lst (O.map D.int)), some (.ref S2.length), none, none, none, none, none] (Sd S2 d x3 ++ [.dicT (dKV kvs)]) = .nx env2 S2' := by
    rw [sFor_ev, it2]; exact g7
  rw [g8, g9] at s10
  have gd : (Sd S2 d x6 ++ ([SO.dicT (dKV kvs3)] ++ [.dicT (dKV kvs2)]))[S2.length]? = some (.dicT (dKV kvs3)) := by rw [Sd_loc0]; rfl
  have hk3 : kvs3.length ≤ 20 := by omega
  have so := sorted_Kk gd (by omega)
  have c14 : goLc [14] (.nm 14) G.tYes (eTupZ (aCons (eBin bIx (eVar 14) (eC (.int 0))) (aCons (eBin bIx (eVar 14) (eC (.int 1))) (aCons (eBin bIx (eVar 9) (eVar 14)) aNil)))) [some (.ref d), some (.int 3), some (.int 5), some (.int 3), some (.int many), some (.tup (LS.map dL)), some (.lst (E.map D.int)), o7, some (.lst (O.map D.int)), some (.ref S2.length), o10, o11, o12, none, none] ((sortG ltK (kvs3.map (·.1))).map dKk) [] (Sd S2 d x6 ++ ([.dicT (dKV kvs3)] ++ [.dicT (dKV kvs2)])) = .ok (.lst ((bndS kvs3).map dB)) (Sd S2 d x6 ++ ([.dicT (dKV kvs3)] ++ [.dicT (dKV kvs2)])) := by
    rw [bndS, List.map_map]
    refine goLc_all dKk _ _ (fun k hk => ⟨_, by simp [wipeE]; rfl, ?_⟩) (by rw [sortG_len, List.length_map]; omega)
    have hk2 : k ∈ kvs3.map (·.1) := (sortG_perm _ _).mem_iff.mp hk
    have hb := bIx_Kk gd k hk2
    have h0 : ∀ S, bIx S (dKk k) (.int 0) = some (.int k.1) := fun S => by simp [dKk]
    have h1 : ∀ S, bIx S (dKk k) (.int 1) = some (.int k.2) := fun S => by simp [dKk]
    have hz : dKk k ≠ .err := fun z => nomatch z
    simp only [List.cons_append, List.nil_append] at hb ⊢
    simp [h0, h1, hb, hz]
    rfl
  obtain ⟨U1, e1⟩ := hpre1
  obtain ⟨U2, e2⟩ := hS2
  have eS : ∀ L : Store, Sd S2 d x6 ++ L = Sd S d x6 ++ (U1 ++ (U2 ++ L)) := fun L => by
    rw [e2, e1, ← Sd_app (S ++ U1) U2 d x6 (by simp; omega), ← Sd_app S U1 d x6 hd, List.append_assoc, List.append_assoc]
  refine ⟨⟨many, bndS kvs3, LS⟩, x6, U1 ++ (U2 ++ ([.dicT (dKV kvs3)] ++ [.dicT (dKV kvs2)])), ?_, h1, h2, g10, ?_⟩
  · rw [← hLS]
    exact drawn_net h1 h2 hp hh hls hl5 hnd g11 (by omega)
  · refine fnR_as rfl ?_
    rw [← eS]
    refine (congrArg ofO2 (seq_nx s4 (seq_nx s5 (seq_nx s6 (seq_nx s8 (seq_nx s9 (seq_nx s10 (o := .rt (dN ⟨many, bndS kvs3, LS⟩) (Sd S2 d x6 ++ ([.dicT (dKV kvs3)] ++ [.dicT (dKV kvs2)]))) ?_))))))).trans rfl
    simp only [List.cons_append, List.nil_append] at so c14 ⊢
    simp [so, c14, dN]
end K97
end

section
set_option Elab.async false
set_option linter.all false
set_option maxRecDepth 100000
set_option maxHeartbeats 4000000
/-! P30: a minute of the law's run. By an AI agent. -/
namespace G
theorem goFor_rt {α : Type} {p : Pat} {body : SM} (enc : α → D) (P : Nat → Env → Store → Prop) (Q : D → Prop) (xs : List α) (env : Env) (S : Store) (h : P 0 env S)
    (hs : ∀ j env S x, x ∈ xs → xs[j]? = some x → P j env S → ∃ e, bindP p (enc x) env = some e ∧ ((∃ e1 S1, body e S = .nx e1 S1 ∧ P (j + 1) e1 S1) ∨ ∃ d S1, body e S = .rt d S1 ∧ Q d)) :
    (∃ env' S', goFor p body (xs.map enc) env S = .nx env' S' ∧ P xs.length env' S') ∨ ∃ d S', goFor p body (xs.map enc) env S = .rt d S' ∧ Q d := by
  have : ∀ (ys : List α) (i : Nat) (env : Env) (S : Store), (∀ j, ys[j]? = xs[i + j]?) → P i env S → (∃ env' S', goFor p body (ys.map enc) env S = .nx env' S' ∧ P (i + ys.length) env' S') ∨ ∃ d S', goFor p body (ys.map enc) env S = .rt d S' ∧ Q d := by
    intro ys
    induction ys with
    | nil => intro i env S _ h; exact .inl ⟨env, S, rfl, h⟩
    | cons y r ih =>
      intro i env S hg h
      have hy : xs[i]? = some y := (hg 0).symm
      obtain ⟨e, h1, h2⟩ := hs i env S y (List.mem_of_getElem? hy) hy h
      rcases h2 with ⟨e1, S1, h2, h3⟩ | ⟨d, S1, h2, h3⟩
      · rcases ih (i + 1) e1 S1 (fun j => by
          have := hg (j + 1)
          simp only [List.getElem?_cons_succ] at this
          rw [this, show i + (j + 1) = i + 1 + j by omega]) h3 with ⟨env', S', g1, g2⟩ | ⟨d, S', g1, g2⟩
        · refine .inl ⟨env', S', by simp only [List.map_cons, goFor, h1, h2]; exact g1, ?_⟩
          rw [show i + (y :: r).length = i + 1 + r.length by simp; omega]
          exact g2
        · exact .inr ⟨d, S', by simp only [List.map_cons, goFor, h1, h2]; exact g1, g2⟩
      · exact .inr ⟨d, S1, by simp only [List.map_cons, goFor, h1, h2], h3⟩
  rcases this xs 0 env S (fun j => by rw [Nat.zero_add]) h with ⟨env', S', g1, g2⟩ | h
  · exact .inl ⟨env', S', g1, by rw [Nat.zero_add] at g2; exact g2⟩
  · exact .inr h
theorem bAdd_tt (S : Store) (F G : List D) (h : F.length + G.length ≤ 1000000) : bAdd S (.tup F) (.tup G) = some (.tup (F ++ G)) := by
  simp only [bAdd, rd_tupE]
  rw [if_pos (by simp; omega)]
theorem endsAt_ne {n : Nt} (w : WN n) (ts : List (Option Int)) (m : Int) : 0 < (endsAt n ts m).length := by
  rw [endsAt, srtL, sortG_len, List.length_map, srtL, sortG_len, lotsG_len]
  simp
  exact Nat.pow_pos (by decide)
theorem endsAt_len {n : Nt} (w : WN n) (ts : List (Option Int)) (m : Int) : (endsAt n ts m).length ≤ 1024 := by
  rw [endsAt, srtL, sortG_len, List.length_map, srtL, sortG_len, lotsG_len]
  have h2 : (srtI (mayL n ts m)).length ≤ 10 := by
    have := List.length_filter_le (fun l => canE ts m l && !mustE ts m l) n.ls
    have := w.ll
    rw [srtI, sortG_len]
    simp only [mayL, List.length_map]; omega
  have := pow_small h2
  simpa using this
theorem bIx_lotsi (S : Store) (xs : List (List Int)) (i : Int) {k : Nat} {y : List Int} (hk : i = k) (hy : xs[k]? = some y) : bIx S (.tup (xs.map dLot)) (.int i) = some (dLot y) := by
  rw [hk, bIx_tup, atD_nat, List.getElem?_map, hy]; rfl
theorem leftL_pw (n : Nt) (ts : List (Option Int)) : (leftL n ts).Pairwise (· < ·) := by
  refine List.Pairwise.sublist (l₂ := rgIJ 1 n.many) ?_ ?_
  · exact List.filter_sublist.trans List.filter_sublist
  · simp only [rgIJ, rgI]
    rw [List.pairwise_map]
    exact List.pairwise_lt_range.imp (fun h => by omega)
theorem leftL_len {n : Nt} (w : WN n) (ts : List (Option Int)) : (leftL n ts).length ≤ 15 := by
  have h1 := List.length_filter_le (fun e => (tAt ts e).isNone) (oursL n)
  have := oursL_len w
  simp only [leftL]; omega
/-- the store of the law's run: draws at 0, the live run at the end -/
def St (S1 : Store) (n : Nt) (ys : List Int) (stages : List D) : Store := Sd S1 0 ys ++ [.ins 2 (lvF n (S1.length + 1)), .lst stages]
theorem St.lv (S1 : Store) (n : Nt) (ys : List Int) (pre : List D) (m : Int) (ts : List (Option Int)) : Lv (St S1 n ys (pre ++ [dPl m ts])) S1.length (S1.length + 1) n pre m ts :=
  ⟨by rw [St, Sd_loc0]; rfl, by rw [St, Sd_loc]; rfl⟩
theorem St.set (S1 : Store) (n : Nt) (ys : List Int) (s s' : List D) : (St S1 n ys s).set (S1.length + 1) (.lst s') = St S1 n ys s' := by
  rw [St, Sd_setL]; rfl
end G
namespace K97
open G
theorem st_take (S1 : Store) (h0 : 0 < S1.length) (n : Nt) (ys : List Int) (hy : ys.length ≤ 1000) (s : List D) (m : Int) (hm : 0 < m) : ∃ (r : Int) (zs : List Int), 0 ≤ r ∧ r < m ∧ zs.length ≤ 1000 ∧ fm__law_take [.ref 0, .int m] (St S1 n ys s) = .ok (.int r) (St S1 n zs s) := take_w S1 _ 0 h0 ys hy m hm
/-- some of them, drawn -/
theorem took_w (S1 : Store) (h0 : 0 < S1.length) (n : Nt) (s : List D) (o0 o2 o3 o4 o5 o6 o7 o8 o9 o10 o11 o12 : Option D) : ∀ (xs : List Int) (ys : List Int) (acc : List Int), ys.length ≤ 1000 → acc.length + xs.length ≤ 1000 →
    ∃ (o : List Int) (zs : List Int), zs.length ≤ 1000 ∧ o.Sublist xs ∧ goLc [11] (.nm 11) (tV (eBin bEq (eCall fm__law_take (aCons (eVar 1) (aCons (eC (.int 3)) aNil))) (eC (.int 0)))) (eVar 11) [o0, some (.ref 0), o2, o3, o4, o5, o6, o7, o8, o9, o10, o11, o12] (xs.map D.int) (acc.map D.int) (St S1 n ys s) = .ok (.lst ((acc ++ o).map D.int)) (St S1 n zs s)
  | [], ys, acc, hy, _ => ⟨[], ys, hy, List.Sublist.slnil, by simp [goLc]⟩
  | x :: xs, ys, acc, hy, ha => by
    obtain ⟨r, z1, p0, p1, q1, t1⟩ := st_take S1 h0 n ys hy s 3 (by omega)
    have hz : ∃ e, bindP (.nm 11) (.int x) (wipeE [11] [o0, some (.ref 0), o2, o3, o4, o5, o6, o7, o8, o9, o10, o11, o12]) = some e ∧ (tV (eBin bEq (eCall fm__law_take (aCons (eVar 1) (aCons (eC (.int 3)) aNil))) (eC (.int 0)))) e (St S1 n ys s) = .ok (decide (r = 0)) (St S1 n z1 s) ∧ eVar 11 e (St S1 n z1 s) = .ok (.int x) (St S1 n z1 s) :=
      ⟨_, by simp [wipeE]; rfl, by simp [t1], by simp⟩
    obtain ⟨e, e1, e2, e3⟩ := hz
    have nb : Nat.blt (acc.map D.int).length 10000000 = true := by simp at ha; simp [Nat.blt_eq]; omega
    by_cases hr : r = 0
    · obtain ⟨o, zs, b1, b2, b3⟩ := took_w S1 h0 n s o0 o2 o3 o4 o5 o6 o7 o8 o9 o10 o11 o12 xs z1 (acc ++ [x]) q1 (by simp at ha ⊢; omega)
      refine ⟨x :: o, zs, b1, b2.cons₂ x, ?_⟩
      rw [decide_eq_true hr] at e2
      rw [List.map_cons]
      unfold goLc
      simp only [e1, e2, e3, nb, if_pos]
      rw [show acc.map D.int ++ [.int x] = (acc ++ [x]).map D.int by simp]
      rw [b3]
      simp
    · obtain ⟨o, zs, b1, b2, b3⟩ := took_w S1 h0 n s o0 o2 o3 o4 o5 o6 o7 o8 o9 o10 o11 o12 xs z1 acc q1 (by simp at ha ⊢; omega)
      refine ⟨o, zs, b1, b2.cons x, ?_⟩
      rw [decide_eq_false hr] at e2
      rw [List.map_cons]
      unfold goLc
      simp only [e1, e2]
      exact b3
/-- they come -/
theorem comes_w {n : Nt} (w : WN n) (S1 : Store) (ys : List Int) (m : Int) (o0 o1 o2 o3 o4 o5 o7 o8 o9 o10 o12 : Option D) : ∀ (o : List Int) (ts : List (Option Int)) (pre : List D) (o11 : Option D), (ts.length : Int) = n.many → o.Nodup → (∀ x ∈ o, x ∈ leftL n ts) → pre.length + o.length < 900 →
    ∃ (o11' : Option D) (pre' : List D), pre'.length = pre.length + o.length ∧ goFor (.nm 11) (sExpr (eMeth [] 2 fm_Live_come (eVar 6) (aCons (eVar 11) aNil))) (o.map D.int) [o0, o1, o2, o3, o4, o5, some (.ref S1.length), o7, o8, o9, o10, o11, o12] (St S1 n ys (pre ++ [dPl m ts])) = .nx [o0, o1, o2, o3, o4, o5, some (.ref S1.length), o7, o8, o9, o10, o11', o12] (St S1 n ys (pre' ++ [dPl m (wc ts o m)]))
  | [], ts, pre, o11, _, _, _, _ => ⟨o11, pre, rfl, by rw [wc_nil]; rfl⟩
  | x :: r, ts, pre, o11, hl, hn, hx, hp => by
    have hn2 := List.nodup_cons.mp hn
    have lv := St.lv S1 n ys pre m ts
    simp only [List.length_cons] at hp
    have cm := lv_come w hl lv (by omega) x (hx x List.mem_cons_self)
    rw [St.set] at cm
    have hr : ∀ y ∈ r, y ∈ leftL n (wc ts [x] m) := fun y hy => by
      have h1 := List.mem_filter.mp (hx y (List.mem_cons_of_mem _ hy))
      have h2 := oursL_ev h1.1
      refine List.mem_filter.mpr ⟨h1.1, ?_⟩
      rw [tAt_wc _ _ _ _ (by omega) (by omega), if_neg (fun z => hn2.1 (by have e := List.mem_singleton.mp z; rw [← e]; exact hy))]
      exact h1.2
    obtain ⟨o11', pre', e1, e2⟩ := comes_w w S1 ys m o0 o1 o2 o3 o4 o5 o7 o8 o9 o10 o12 r (wc ts [x] m) (pre ++ [dPl m ts]) (some (.int x)) (by rw [wc_len]; exact hl) hn2.2 hr (by simp; omega)
    refine ⟨o11', pre', by rw [e1]; simp; omega, ?_⟩
    have hi := lv.i
    have k3 : okFs [] (lvF n (S1.length + 1)) = true := by simp [okFs, lvF, Nat.beq]
    have hw2 : wc (wc ts [x] m) r m = wc ts (x :: r) m := by
      refine ts_ext (by simp [wc_len]) fun e h0 h1 => ?_
      rw [wc_len, wc_len] at h1
      rw [tAt_wc _ _ _ _ h0 (by rw [wc_len]; exact h1), tAt_wc _ _ _ _ h0 h1, tAt_wc _ _ _ _ h0 h1]
      by_cases q1 : e ∈ r <;> by_cases q2 : e = x <;> simp [q1, q2]
    rw [hw2] at e2
    rw [List.map_cons, goFor_cons]
    have bd : (sExpr (eMeth [] 2 fm_Live_come (eVar 6) (aCons (eVar 11) aNil))) [o0, o1, o2, o3, o4, o5, some (.ref S1.length), o7, o8, o9, o10, some (.int x), o12] (St S1 n ys (pre ++ [dPl m ts])) = .nx [o0, o1, o2, o3, o4, o5, some (.ref S1.length), o7, o8, o9, o10, some (.int x), o12] (St S1 n ys ((pre ++ [dPl m ts]) ++ [dPl m (wc ts [x] m)])) := by
      simp [hi, k3, cm]
    simp only [bindP_nm, set_0, set_S]
    rw [bd]
    exact e2
end K97
end

section
set_option Elab.async false
set_option linter.all false
set_option maxRecDepth 100000
set_option maxHeartbeats 4000000
/-! P31: the law's run. By an AI agent. -/
namespace K97
open G
def bodyL : SM := (sSeq (sSet (.nm 9) (eTupZ (aCons (eMeth [6] 2 fm_Live_minute (eVar 6) aNil) (aCons (eMeth [5] 2 fm_Live_times (eVar 6) aNil) aNil)))) (sSeq (sSet (.nm 10) (eBuilt fTuple (aCons (eLc [11] (.nm 11) (iSeq (eCall fm__law_left (aCons (eVar 2) (aCons (eMeth [5] 2 fm_Live_times (eVar 6) aNil) aNil)))) (tV (eBin bEq (eCall fm__law_take (aCons (eVar 1) (aCons (eC (.int 3)) aNil))) (eC (.int 0)))) (eVar 11)) aNil))) (sSeq (sFor (.nm 11) (iSeq (eVar 10)) (sExpr (eMeth [] 2 fm_Live_come (eVar 6) (aCons (eVar 11) aNil)))) (sSeq (sSet (.nm 7) (eBin bAdd (eVar 7) (eTupZ (aCons (eTupZ (aCons (eVar 3) (aCons (eVar 8) (aCons (eVar 10) aNil)))) aNil)))) (sSeq (sIf (tNot (tTr (eCall fm__law_is_minute_right (aCons (eVar 2) (aCons (eVar 6) (aCons (eVar 7) aNil)))))) (sRet (eC (.bl false))) sNil) (sSeq (sIf (tTr (eMeth [] 2 fm_Live_is_over (eVar 6) aNil)) (sRet (eBin bInD (eBin bIx (eCall fm_audited (aCons (eVar 2) (aCons (eBin bAdd (eVar 7) (eTupZ (aCons (eTupZ (aCons (eBin bAdd (eVar 3) (eC (.int 1))) (aCons (eTupZ aNil) (aCons (eTupZ aNil) aNil)))) aNil))) aNil))) (eC (.int 0))) (eTupZ (aCons (eC (.str [119, 114, 111, 110, 103])) (aCons (eC (.str [98, 114, 111, 107, 101, 110])) aNil))))) sNil) (sSeq (sIf (tNot (tTr (eCall fm__law_are_ends_right (aCons (eVar 2) (aCons (eVar 6) (aCons (eVar 9) (aCons (eVar 10) aNil))))))) (sRet (eC (.bl false))) sNil) (sSeq (sSet (.nm 12) (eCall fm_ends_next (aCons (eVar 2) (aCons (eVar 9) (aCons (eVar 10) aNil))))) (sSeq (sSet (.nm 8) (eBin bIx (eVar 12) (eCall fm__law_take (aCons (eVar 1) (aCons (eBuilt fLen (aCons (eVar 12) aNil)) aNil))))) (sExpr (eMeth [] 2 fm_Live_go (eVar 6) (aCons (eVar 8) aNil))))))))))))
/-- what holds ahead of a minute -/
def PL (row : List Int) (S1 : Store) (n : Nt) (j : Nat) (env : Env) (S : Store) : Prop := ∃ (o3 o9 o10 o11 o12 : Option D) (ys : List Int) (js : List (List Int × List Int)) (c : List Int) (pre : List D),
  env = [some (.scr row), some (.ref 0), some (dN n), o3, none, none, some (.ref S1.length), some (dJ js []), some (dLot c), o9, o10, o11, o12] ∧ S = St S1 n ys (pre ++ [dPl j (wc (stJ (ts0 n.many) 0 js) c j)]) ∧ ys.length ≤ 1000 ∧ js.length = j ∧ VJ n (ts0 n.many) 0 js ∧ Inv n j (stJ (ts0 n.many) 0 js) ∧ EndsK n j (stJ (ts0 n.many) 0 js) c ∧ (stJ (ts0 n.many) 0 js).any Option.isNone = true ∧ pre.length ≤ 20 * j
theorem step_w {n : Nt} (w : WN n) (S1 : Store) (h0 : 0 < S1.length) (row : List Int) (j : Nat) (hj : j ≤ 20) (env : Env) (S : Store) (h : PL row S1 n j env S) :
    ∃ e, bindP (.nm 3) (.int j) env = some e ∧ ((∃ e1 S', bodyL e S = .nx e1 S' ∧ PL row S1 n (j + 1) e1 S') ∨ ∃ d S', bodyL e S = .rt d S' ∧ d = .bl true) := by
  obtain ⟨o3, o9, o10, o11, o12, ys, js, c, pre, rfl, rfl, hys, hjs, hv, hi, hc, hop, hpre⟩ := h
  have hm := inR_iff.mp w.many
  generalize hT : stJ (ts0 n.many) 0 js = T at *
  have hlen := hi.len
  have hplc := hi.plc w hc
  generalize hTb : wc T c j = Tb at *
  have hTbl : (Tb.length : Int) = n.many := hplc.len
  refine ⟨[some (.scr row), some (.ref 0), some (dN n), some (.int j), none, none, some (.ref S1.length), some (dJ js []), some (dLot c), o9, o10, o11, o12], by simp, ?_⟩
  have lv := St.lv S1 n ys pre j Tb
  have k1 : okFs [5] (lvF n (S1.length + 1)) = true := by simp [okFs, lvF, Nat.beq]
  have k2 : okFs [6] (lvF n (S1.length + 1)) = true := by simp [okFs, lvF, Nat.beq]
  have k3 : okFs [] (lvF n (S1.length + 1)) = true := by simp [okFs, lvF, Nat.beq]
  have t1 := lv_times lv
  have t2 := lv_minute lv
  have i1 := lv.i
  have s1 : (sSet (.nm 9) (eTupZ (aCons (eMeth [6] 2 fm_Live_minute (eVar 6) aNil) (aCons (eMeth [5] 2 fm_Live_times (eVar 6) aNil) aNil)))) [some (.scr row), some (.ref 0), some (dN n), some (.int j), none, none, some (.ref S1.length), some (dJ js []), some (dLot c), o9, o10, o11, o12] (St S1 n ys (pre ++ [dPl j Tb])) = .nx [some (.scr row), some (.ref 0), some (dN n), some (.int j), none, none, some (.ref S1.length), some (dJ js []), some (dLot c), some (dPl j Tb), o10, o11, o12] (St S1 n ys (pre ++ [dPl j Tb])) := by
    simp [i1, k1, k2, t1, t2]
    rfl
  have ll := law_left_w (ts := Tb) w (dTs Tb) (by simp) (St S1 n ys (pre ++ [dPl j Tb])) (fun e h0 h1 => bIx_ts _ Tb e h0 (by omega))
  obtain ⟨o, zs, hz, hsub, tk⟩ := took_w S1 h0 n (pre ++ [dPl j Tb]) (some (.scr row)) (some (dN n)) (some (.int j)) none none (some (.ref S1.length)) (some (dJ js [])) (some (dLot c)) (some (dPl j Tb)) o10 o11 o12 (leftL n Tb) ys [] hys (by have := leftL_len w Tb; simp; omega)
  have hol : ∀ x ∈ o, x ∈ leftL n Tb := fun x hx => hsub.subset hx
  have hopw : o.Pairwise (· < ·) := (leftL_pw n Tb).sublist hsub
  have hon : o.length ≤ 15 := by have := hsub.length_le; have := leftL_len w Tb; omega
  have s2 : (sSet (.nm 10) (eBuilt fTuple (aCons (eLc [11] (.nm 11) (iSeq (eCall fm__law_left (aCons (eVar 2) (aCons (eMeth [5] 2 fm_Live_times (eVar 6) aNil) aNil)))) (tV (eBin bEq (eCall fm__law_take (aCons (eVar 1) (aCons (eC (.int 3)) aNil))) (eC (.int 0)))) (eVar 11)) aNil))) [some (.scr row), some (.ref 0), some (dN n), some (.int j), none, none, some (.ref S1.length), some (dJ js []), some (dLot c), some (dPl j Tb), o10, o11, o12] (St S1 n ys (pre ++ [dPl j Tb])) = .nx [some (.scr row), some (.ref 0), some (dN n), some (.int j), none, none, some (.ref S1.length), some (dJ js []), some (dLot c), some (dPl j Tb), some (dLot o), o11, o12] (St S1 n zs (pre ++ [dPl j Tb])) := by
    simp only [List.map_nil, List.nil_append] at tk
    simp [i1, k1, t1, ll, tk]
    rfl
  obtain ⟨o11', pre', hpl, cm⟩ := comes_w w S1 zs j (some (.scr row)) (some (.ref 0)) (some (dN n)) (some (.int j)) none none (some (dJ js [])) (some (dLot c)) (some (dPl j Tb)) (some (dLot o)) o12 o Tb pre o11 hTbl (pw_nodup hopw) hol (by omega)
  have s3 : (sFor (.nm 11) (iSeq (eVar 10)) (sExpr (eMeth [] 2 fm_Live_come (eVar 6) (aCons (eVar 11) aNil)))) [some (.scr row), some (.ref 0), some (dN n), some (.int j), none, none, some (.ref S1.length), some (dJ js []), some (dLot c), some (dPl j Tb), some (dLot o), o11, o12] (St S1 n zs (pre ++ [dPl j Tb])) = .nx [some (.scr row), some (.ref 0), some (dN n), some (.int j), none, none, some (.ref S1.length), some (dJ js []), some (dLot c), some (dPl j Tb), some (dLot o), o11', o12] (St S1 n zs (pre' ++ [dPl j (wc Tb o j)])) := by
    have it : iSeq (eVar 10) [some (.scr row), some (.ref 0), some (dN n), some (.int j), none, none, some (.ref S1.length), some (dJ js []), some (dLot c), some (dPl j Tb), some (dLot o), o11, o12] (St S1 n zs (pre ++ [dPl j Tb])) = .ok (o.map D.int) (St S1 n zs (pre ++ [dPl j Tb])) := by simp [dLot]
    rw [sFor_ev, it]; exact cm
  have hap : wc Tb o j = apE T j c o := by rw [← hTb]; rfl
  have hst : stJ (ts0 n.many) 0 (js ++ [(c, o)]) = wc Tb o j := by
    rw [stJ_app, hT, Nat.zero_add, hjs, hap]
  have ve : VE n T j c o := hi.ve w hc hop hopw (by rw [hTb]; exact hol)
  have hv' : VJ n (ts0 n.many) 0 (js ++ [(c, o)]) := VJ_app js 0 _ (c, o) n hv (by rw [hT, Nat.zero_add, hjs]; exact ve)
  have hinx : Inv n (j + 1) (wc Tb o j) := by
    have := hi.next w hc (o := o) (by rw [hTb]; exact hol)
    rw [hTb] at this; exact this
  have hlm : lastM 0 0 (js ++ [(c, o)]) = (j : Int) := by rw [lastM_app, Nat.zero_add, hjs]
  have s4 : (sSet (.nm 7) (eBin bAdd (eVar 7) (eTupZ (aCons (eTupZ (aCons (eVar 3) (aCons (eVar 8) (aCons (eVar 10) aNil)))) aNil)))) [some (.scr row), some (.ref 0), some (dN n), some (.int j), none, none, some (.ref S1.length), some (dJ js []), some (dLot c), some (dPl j Tb), some (dLot o), o11', o12] (St S1 n zs (pre' ++ [dPl j (wc Tb o j)])) = .nx [some (.scr row), some (.ref 0), some (dN n), some (.int j), none, none, some (.ref S1.length), some (dJ (js ++ [(c, o)]) []), some (dLot c), some (dPl j Tb), some (dLot o), o11', o12] (St S1 n zs (pre' ++ [dPl j (wc Tb o j)])) := by
    have ba := bAdd_tt (St S1 n zs (pre' ++ [dPl j (wc Tb o j)])) (encJ 0 js ++ []) [.tup [.int j, dLot c, dLot o]] (by simp [encJ_len]; omega)
    have e : D.tup ((encJ 0 js ++ []) ++ [.tup [.int j, dLot c, dLot o]]) = dJ (js ++ [(c, o)]) [] := by
      rw [dJ, encJ_app, List.append_nil, List.append_nil, Nat.zero_add, hjs]; rfl
    rw [e] at ba
    have ba' : bAdd (St S1 n zs (pre' ++ [dPl j (wc Tb o j)])) (dJ js []) (.tup [.tup [.int j, dLot c, dLot o]]) = some (dJ (js ++ [(c, o)]) []) := ba
    simp [ba']
  have hjn : Jn n (js ++ [(c, o)]) [] := ⟨hv', (fun _ _ z => nomatch z), rfl⟩
  have hjl : (js ++ [(c, o)]).length = j + 1 := by simp; exact hjs
  have lv2 := St.lv S1 n zs pre' j (wc Tb o j)
  have i2 := lv2.i
  have mr := minute_right_w w hjn (by omega) (S := St S1 n zs (pre' ++ [dPl j (wc Tb o j)])) (v := S1.length) (q := S1.length + 1) (pre := pre') (by rw [hlm, hst]; exact lv2) (by rw [hst]; exact hinx.cm)
  have s5 : (sIf (tNot (tTr (eCall fm__law_is_minute_right (aCons (eVar 2) (aCons (eVar 6) (aCons (eVar 7) aNil)))))) (sRet (eC (.bl false))) sNil) [some (.scr row), some (.ref 0), some (dN n), some (.int j), none, none, some (.ref S1.length), some (dJ (js ++ [(c, o)]) []), some (dLot c), some (dPl j Tb), some (dLot o), o11', o12] (St S1 n zs (pre' ++ [dPl j (wc Tb o j)])) = .nx [some (.scr row), some (.ref 0), some (dN n), some (.int j), none, none, some (.ref S1.length), some (dJ (js ++ [(c, o)]) []), some (dLot c), some (dPl j Tb), some (dLot o), o11', o12] (St S1 n zs (pre' ++ [dPl j (wc Tb o j)])) := by
    simp [mr]
  have t3 := lv_over lv2
  cases hov : (wc Tb o j).any Option.isNone with
  | false =>
    rw [hov] at t3
    refine .inr ⟨.bl true, St S1 n zs (pre' ++ [dPl j (wc Tb o j)]), ?_, rfl⟩
    have hjn2 : Jn n (js ++ [(c, o)]) [.tup [.int (j + 1), dLot [], dLot []]] := ⟨hv', fun d r z => by
      cases z
      exact ⟨.inl (by rw [hst]; exact hov), by simp, fun z => nomatch z⟩, by simp⟩
    have au := audited_w w hjn2 (St S1 n zs (pre' ++ [dPl j (wc Tb o j)]))
    obtain ⟨x, _, hx, _, _, _, hx2⟩ := bIx_res (St S1 n zs (pre' ++ [dPl j (wc Tb o j)])) n (ts0 n.many) (js ++ [(c, o)]) true
    have hg : goodR n (ts0 n.many) (js ++ [(c, o)]) true = false := by simp [goodR]
    rw [hg] at hx2
    have ba := bAdd_tt (St S1 n zs (pre' ++ [dPl j (wc Tb o j)])) (encJ 0 (js ++ [(c, o)]) ++ []) [.tup [.int (j + 1), .tup [], .tup []]] (by simp [encJ_len]; omega)
    have e : D.tup ((encJ 0 (js ++ [(c, o)]) ++ []) ++ [.tup [.int (j + 1), .tup [], .tup []]]) = dJ (js ++ [(c, o)]) [.tup [.int (j + 1), dLot [], dLot []]] := by
      rw [List.append_nil]; rfl
    rw [e] at ba
    have ba' : bAdd (St S1 n zs (pre' ++ [dPl j (wc Tb o j)])) (dJ (js ++ [(c, o)]) []) (.tup [.tup [.int (j + 1), .tup [], .tup []]]) = some (dJ (js ++ [(c, o)]) [.tup [.int (j + 1), dLot [], dLot []]]) := ba
    have rz := res_ok n (ts0 n.many) (js ++ [(c, o)]) true
    simp only [resJ, List.isEmpty_cons, Bool.not_false] at au
    generalize resD n (ts0 n.many) (js ++ [(c, o)]) true = rs at *
    simp only [sWrong, sBroken] at hx2
    have s6 : (sIf (tTr (eMeth [] 2 fm_Live_is_over (eVar 6) aNil)) (sRet (eBin bInD (eBin bIx (eCall fm_audited (aCons (eVar 2) (aCons (eBin bAdd (eVar 7) (eTupZ (aCons (eTupZ (aCons (eBin bAdd (eVar 3) (eC (.int 1))) (aCons (eTupZ aNil) (aCons (eTupZ aNil) aNil)))) aNil))) aNil))) (eC (.int 0))) (eTupZ (aCons (eC (.str [119, 114, 111, 110, 103])) (aCons (eC (.str [98, 114, 111, 107, 101, 110])) aNil))))) sNil) [some (.scr row), some (.ref 0), some (dN n), some (.int j), none, none, some (.ref S1.length), some (dJ (js ++ [(c, o)]) []), some (dLot c), some (dPl j Tb), some (dLot o), o11', o12] (St S1 n zs (pre' ++ [dPl j (wc Tb o j)])) = .rt (.bl true) (St S1 n zs (pre' ++ [dPl j (wc Tb o j)])) := by
      simp [i2, k3, t3, ba', au, rz, hx, hx2]
    refine seq_nx s1 (seq_nx s2 (seq_nx s3 (seq_nx s4 (seq_nx s5 ?_))))
    rw [sSeq_ev, s6]
  | true =>
    rw [hov] at t3
    have s6 : (sIf (tTr (eMeth [] 2 fm_Live_is_over (eVar 6) aNil)) (sRet (eBin bInD (eBin bIx (eCall fm_audited (aCons (eVar 2) (aCons (eBin bAdd (eVar 7) (eTupZ (aCons (eTupZ (aCons (eBin bAdd (eVar 3) (eC (.int 1))) (aCons (eTupZ aNil) (aCons (eTupZ aNil) aNil)))) aNil))) aNil))) (eC (.int 0))) (eTupZ (aCons (eC (.str [119, 114, 111, 110, 103])) (aCons (eC (.str [98, 114, 111, 107, 101, 110])) aNil))))) sNil) [some (.scr row), some (.ref 0), some (dN n), some (.int j), none, none, some (.ref S1.length), some (dJ (js ++ [(c, o)]) []), some (dLot c), some (dPl j Tb), some (dLot o), o11', o12] (St S1 n zs (pre' ++ [dPl j (wc Tb o j)])) = .nx [some (.scr row), some (.ref 0), some (dN n), some (.int j), none, none, some (.ref S1.length), some (dJ (js ++ [(c, o)]) []), some (dLot c), some (dPl j Tb), some (dLot o), o11', o12] (St S1 n zs (pre' ++ [dPl j (wc Tb o j)])) := by
      simp [i2, k3, t3]
    have er := are_ends_right_w w lv2 (by omega) Tb o hplc rfl hopw hol (by omega)
    have s7 : (sIf (tNot (tTr (eCall fm__law_are_ends_right (aCons (eVar 2) (aCons (eVar 6) (aCons (eVar 9) (aCons (eVar 10) aNil))))))) (sRet (eC (.bl false))) sNil) [some (.scr row), some (.ref 0), some (dN n), some (.int j), none, none, some (.ref S1.length), some (dJ (js ++ [(c, o)]) []), some (dLot c), some (dPl j Tb), some (dLot o), o11', o12] (St S1 n zs (pre' ++ [dPl j (wc Tb o j)])) = .nx [some (.scr row), some (.ref 0), some (dN n), some (.int j), none, none, some (.ref S1.length), some (dJ (js ++ [(c, o)]) []), some (dLot c), some (dPl j Tb), some (dLot o), o11', o12] (St S1 n zs (pre' ++ [dPl j (wc Tb o j)])) := by
      simp [er]
    have en := ends_next_w n w j Tb hplc o ve.o1 ve.o2 hol (by omega) (St S1 n zs (pre' ++ [dPl j (wc Tb o j)]))
    have hne := endsAt_ne w (wc Tb o j) ((j : Int) + 1)
    have hEl := endsAt_len w (wc Tb o j) ((j : Int) + 1)
    have hlot := fun x => endsAt_lot w (ts := wc Tb o j) (m := (j : Int) + 1) (x := x)
    have hmem := fun x => endsAt_mem w (ts := wc Tb o j) (m := (j : Int) + 1) (x := x)
    generalize hE : endsAt n (wc Tb o j) ((j : Int) + 1) = EE at *
    have s8 : (sSet (.nm 12) (eCall fm_ends_next (aCons (eVar 2) (aCons (eVar 9) (aCons (eVar 10) aNil))))) [some (.scr row), some (.ref 0), some (dN n), some (.int j), none, none, some (.ref S1.length), some (dJ (js ++ [(c, o)]) []), some (dLot c), some (dPl j Tb), some (dLot o), o11', o12] (St S1 n zs (pre' ++ [dPl j (wc Tb o j)])) = .nx [some (.scr row), some (.ref 0), some (dN n), some (.int j), none, none, some (.ref S1.length), some (dJ (js ++ [(c, o)]) []), some (dLot c), some (dPl j Tb), some (dLot o), o11', some (.tup (EE.map dLot))] (St S1 n zs (pre' ++ [dPl j (wc Tb o j)])) := by
      simp [en]
    obtain ⟨r, us, r0, r1, hu, tr⟩ := st_take S1 h0 n zs hz (pre' ++ [dPl j (wc Tb o j)]) EE.length (by omega)
    have hin : r.toNat < EE.length := by omega
    have bx := bIx_lotsi (St S1 n us (pre' ++ [dPl j (wc Tb o j)])) EE r (k := r.toNat) (y := EE[r.toNat]) (by omega) (by simp [hin])
    have hcm : EE[r.toNat] ∈ EE := List.getElem_mem hin
    generalize EE[r.toNat] = c' at *
    have s9 : (sSet (.nm 8) (eBin bIx (eVar 12) (eCall fm__law_take (aCons (eVar 1) (aCons (eBuilt fLen (aCons (eVar 12) aNil)) aNil))))) [some (.scr row), some (.ref 0), some (dN n), some (.int j), none, none, some (.ref S1.length), some (dJ (js ++ [(c, o)]) []), some (dLot c), some (dPl j Tb), some (dLot o), o11', some (.tup (EE.map dLot))] (St S1 n zs (pre' ++ [dPl j (wc Tb o j)])) = .nx [some (.scr row), some (.ref 0), some (dN n), some (.int j), none, none, some (.ref S1.length), some (dJ (js ++ [(c, o)]) []), some (dLot c'), some (dPl j Tb), some (dLot o), o11', some (.tup (EE.map dLot))] (St S1 n us (pre' ++ [dPl j (wc Tb o j)])) := by
      simp [-bIx_tup, tr, bx]
    have lv3 := St.lv S1 n us pre' j (wc Tb o j)
    have i3 := lv3.i
    have hTol : ((wc Tb o j).length : Int) = n.many := by rw [wc_len]; exact hTbl
    have go := lv_go w hTol lv3 (by omega) c' (by have := (hmem c' hcm).2.2.2; omega)
    rw [hE, hlot c' hcm, if_pos (by simp [hcm]), St.set] at go
    have s10 : (sExpr (eMeth [] 2 fm_Live_go (eVar 6) (aCons (eVar 8) aNil))) [some (.scr row), some (.ref 0), some (dN n), some (.int j), none, none, some (.ref S1.length), some (dJ (js ++ [(c, o)]) []), some (dLot c'), some (dPl j Tb), some (dLot o), o11', some (.tup (EE.map dLot))] (St S1 n us (pre' ++ [dPl j (wc Tb o j)])) = .nx [some (.scr row), some (.ref 0), some (dN n), some (.int j), none, none, some (.ref S1.length), some (dJ (js ++ [(c, o)]) []), some (dLot c'), some (dPl j Tb), some (dLot o), o11', some (.tup (EE.map dLot))] (St S1 n us ((pre' ++ [dPl j (wc Tb o j)]) ++ [dPl ((j : Int) + 1) (wc (wc Tb o j) c' ((j : Int) + 1))])) := by
      simp only [sExpr_ev, eMeth_ev]
      rw [eVar_get (d := .ref S1.length) rfl (by simp), bnd_ok]
      dsimp only
      rw [i3]
      simp [k3, go]
    refine .inl ⟨_, _, seq_nx s1 (seq_nx s2 (seq_nx s3 (seq_nx s4 (seq_nx s5 (seq_nx s6 (seq_nx s7 (seq_nx s8 (seq_nx s9 s10)))))))), ?_⟩
    refine ⟨some (.int j), some (dPl j Tb), some (dLot o), o11', some (.tup (EE.map dLot)), us, js ++ [(c, o)], c', pre' ++ [dPl j (wc Tb o j)], rfl, ?_, hu, hjl, hv', ?_, ?_, ?_, by simp; omega⟩
    · rw [hst]; rfl
    · rw [hst]; exact hinx
    · rw [hst]; exact .inr ⟨by omega, by rw [show ((j + 1 : Nat) : Int) = (j : Int) + 1 by omega, hE]; exact hcm⟩
    · rw [hst]; exact hov
end K97
end

section
set_option Elab.async false
set_option linter.all false
set_option maxRecDepth 100000
set_option maxHeartbeats 4000000
/-! P32: the law holds. By an AI agent. -/
namespace G
theorem slD_init (S : Store) (xs : List D) : slD S (.tup xs) none (some (-1)) = some (.tup xs.dropLast) := by
  have h : cut xs none (some (-1)) = xs.dropLast := by
    unfold cut sIx
    simp only [List.drop_zero, Nat.sub_zero]
    rw [if_neg (by decide), List.dropLast_eq_take]
    congr 1
    omega
  simp only [slD, rd_tupE, h]
end G
namespace K97
open G
theorem law_w (row : List Int) : ∃ S, fm_law [.scr row] [] = .ok (.bl true) S := by
  obtain ⟨ds, hds, t1⟩ := law_draws_w row
  have hsd : Sd [SO.lst (ds.map D.int)] 0 ds = [.lst (ds.map D.int)] := Sd_self rfl
  obtain ⟨n, ys, L, w, h3, h5, hys, t2⟩ := law_net_w [.lst (ds.map D.int)] 0 (by simp) ds hds
  rw [hsd, Sd_app _ L 0 ys (by simp)] at t2
  have hm := inR_iff.mp w.many
  have h0 : 0 < ([SO.lst (ds.map D.int)] ++ L).length := by simp
  generalize [SO.lst (ds.map D.int)] ++ L = S1 at *
  have t3 := lv_new n w h3 (Sd S1 0 ys)
  have s1 : sSet (.nm 1) (eCall fm__law_draws (aCons (eVar 0) (aCons (eC (.int 260)) aNil))) (envOf 13 [.scr row]) [] = .nx [some (.scr row), some (.ref 0), none, none, none, none, none, none, none, none, none, none, none] [.lst (ds.map D.int)] := by
    simp [envOf, t1]
  have s2 : sSet (.nm 2) (eCall fm__law_net (aCons (eVar 1) (aCons (eC (.int 3)) (aCons (eC (.int 5)) (aCons (eC (.int 3)) aNil))))) [some (.scr row), some (.ref 0), none, none, none, none, none, none, none, none, none, none, none] [.lst (ds.map D.int)] = .nx [some (.scr row), some (.ref 0), some (dN n), none, none, none, none, none, none, none, none, none, none] (Sd S1 0 ys) := by
    simp [t2]
  have mk : eMake 2 fm_Live___init__ (aCons (eVar 2) aNil) [some (.scr row), some (.ref 0), some (dN n), none, none, none, none, none, none, none, none, none, none] (Sd S1 0 ys) = .ok (.ref S1.length) (St S1 n ys [dPl 0 (ts0 n.many)]) := by
    have e : eMake 2 fm_Live___init__ (aCons (eVar 2) aNil) [some (.scr row), some (.ref 0), some (dN n), none, none, none, none, none, none, none, none, none, none] (Sd S1 0 ys) = eMake 2 fm_Live___init__ (aCons (eVar 0) aNil) [some (dN n)] (Sd S1 0 ys) := by
      unfold eMake
      simp
    rw [e, t3, Sd_len]
    rfl
  have s3 : sPar [6, 7, 8] (aCons (eMake 2 fm_Live___init__ (aCons (eVar 2) aNil)) (aCons (eTupZ aNil) (aCons (eTupZ aNil) aNil))) [some (.scr row), some (.ref 0), some (dN n), none, none, none, none, none, none, none, none, none, none] (Sd S1 0 ys) = .nx [some (.scr row), some (.ref 0), some (dN n), none, none, none, some (.ref S1.length), some (dJ [] []), some (dLot []), none, none, none, none] (St S1 n ys ([] ++ [dPl 0 (ts0 n.many)])) := by
    simp [mk]
    exact ⟨rfl, rfl⟩
  obtain ⟨r, zs, r0, r1, hz, tk⟩ := st_take S1 h0 n ys hys ([] ++ [dPl 0 (ts0 n.many)]) 8 (by omega)
  have it : iRange1 (eBin bAdd (eC (.int 1)) (eCall fm__law_take (aCons (eVar 1) (aCons (eC (.int 8)) aNil)))) [some (.scr row), some (.ref 0), some (dN n), none, none, none, some (.ref S1.length), some (dJ [] []), some (dLot []), none, none, none, none] (St S1 n ys ([] ++ [dPl 0 (ts0 n.many)])) = .ok ((rgIJ 0 (1 + r)).map D.int) (St S1 n zs ([] ++ [dPl 0 (ts0 n.many)])) := by
    have : eBin bAdd (eC (.int 1)) (eCall fm__law_take (aCons (eVar 1) (aCons (eC (.int 8)) aNil))) [some (.scr row), some (.ref 0), some (dN n), none, none, none, some (.ref S1.length), some (dJ [] []), some (dLot []), none, none, none, none] (St S1 n ys ([] ++ [dPl 0 (ts0 n.many)])) = .ok (.int (1 + r)) (St S1 n zs ([] ++ [dPl 0 (ts0 n.many)])) := by
      rw [List.nil_append] at tk ⊢
      simp [tk]
    rw [iRange1_ev, this, bnd_ok]
    exact rg1_i _ _ (by omega) (by omega)
  have P0 : PL row S1 n 0 [some (.scr row), some (.ref 0), some (dN n), none, none, none, some (.ref S1.length), some (dJ [] []), some (dLot []), none, none, none, none] (St S1 n zs ([] ++ [dPl 0 (ts0 n.many)])) :=
    ⟨none, none, none, none, none, zs, [], [], [], rfl, by rw [wc_nil]; rfl, hz, rfl, trivial, Inv.zero w, .inl ⟨rfl, rfl⟩, ts0_any _ h3, by simp⟩
  have lp := goFor_rt (p := .nm 3) (body := bodyL) D.int (PL row S1 n) (fun d => d = .bl true) (rgIJ 0 (1 + r)) _ _ P0 (fun j env S x hx hj h => by
    have hj2 := (List.getElem?_eq_some_iff.mp hj).1
    rw [rgIJ_len] at hj2
    have hv := rgIJ_get hj
    rw [Int.zero_add] at hv
    subst hv
    exact step_w w S1 h0 row j (by omega) env S h)
  rw [rgIJ_len] at lp
  rcases lp with ⟨env', S', g1, o3, o9, o10, o11, o12, us, js, c, pre, g2, g3, hu, hjl, hv, hi, hc, hop, hpre⟩ | ⟨d, S', g1, rfl⟩
  · obtain ⟨js0, x, rfl⟩ : ∃ js0 x, js = js0 ++ [x] := by
      rcases js.eq_nil_or_concat with rfl | ⟨a, b, h⟩
      · simp at hjl; omega
      · exact ⟨a, b, by rw [h, List.concat_eq_append]⟩
    generalize hJ : js0 ++ [x] = js at *
    have hjn : js.length ≤ 20 := by omega
    have v0 : VJ n (ts0 n.many) 0 js0 := by
      have : ∀ (a : List (List Int × List Int)) (k : Nat) (ts : List (Option Int)) (b : List (List Int × List Int)), VJ n ts k (a ++ b) → VJ n ts k a := by
        intro a
        induction a with
        | nil => intro k ts b _; trivial
        | cons y r ih => intro k ts b h; exact ⟨h.1, ih _ _ b h.2⟩
      exact this js0 0 _ [x] (by rw [hJ]; exact hv)
    have s4 : sFor (.nm 3) (iRange1 (eBin bAdd (eC (.int 1)) (eCall fm__law_take (aCons (eVar 1) (aCons (eC (.int 8)) aNil))))) bodyL [some (.scr row), some (.ref 0), some (dN n), none, none, none, some (.ref S1.length), some (dJ [] []), some (dLot []), none, none, none, none] (St S1 n ys ([] ++ [dPl 0 (ts0 n.many)])) = .nx env' S' := by
      rw [sFor_ev, it]; exact g1
    rw [g2, g3] at s4
    generalize pre ++ [dPl ((1 + r - 0).toNat : Nat) (wc (stJ (ts0 n.many) 0 js) c ((1 + r - 0).toNat : Nat))] = stg at *
    have hE : ∀ S, sSet (.nm 4) (eLstZ (aCons (eC .non) (aCons (eBuilt fList (aCons (eVar 7) aNil)) (aCons (eBin bAdd (eVar 7) (eTupZ (aCons (eC .non) aNil))) (aCons (eBin bAdd (eSl (eVar 7) oNo (oSo (eUn uNeg (eC (.int 1))))) (eTupZ (aCons (eTupZ (aCons (eC (.int 0)) (aCons (eTupZ (aCons (eC (.int 0)) aNil)) (aCons (eTupZ aNil) aNil)))) aNil))) (aCons (eBin bAdd (eVar 7) (eVar 7)) aNil)))))) [some (.scr row), some (.ref 0), some (dN n), o3, none, none, some (.ref S1.length), some (dJ js []), some (dLot c), o9, o10, o11, o12] S = .nx [some (.scr row), some (.ref 0), some (dN n), o3, some (.lst [.non, .lst (encJ 0 js), dJ js [.non], dJ js0 [.tup [.int 0, dLot [0], dLot []]], dJ js (encJ 0 js)]), none, some (.ref S1.length), some (dJ js []), some (dLot c), o9, o10, o11, o12] S := fun S => by
      have b1 : bAdd S (dJ js []) (.tup [.non]) = some (dJ js [.non]) := by
        have := bAdd_tt S (encJ 0 js ++ []) [.non] (by simp [encJ_len]; omega)
        rw [List.append_nil] at this
        rw [dJ, List.append_nil]; exact this
      have b2 : slD S (dJ js []) none (some (-1)) = some (dJ js0 []) := by
        rw [dJ, slD_init, ← hJ, List.append_nil, encJ_app, List.dropLast_concat, dJ, List.append_nil]
      have b3 : bAdd S (dJ js0 []) (.tup [.tup [.int 0, dLot [0], dLot []]]) = some (dJ js0 [.tup [.int 0, dLot [0], dLot []]]) := by
        have hl0 : js0.length ≤ 20 := by rw [← hJ] at hjn; simp at hjn; omega
        have := bAdd_tt S (encJ 0 js0 ++ []) [.tup [.int 0, dLot [0], dLot []]] (by simp [encJ_len]; omega)
        rw [List.append_nil] at this
        rw [dJ, List.append_nil]; exact this
      have b4 : bAdd S (dJ js []) (dJ js []) = some (dJ js (encJ 0 js)) := by
        have := bAdd_tt S (encJ 0 js ++ []) (encJ 0 js ++ []) (by simp [encJ_len]; omega)
        rw [List.append_nil] at this
        rw [dJ, List.append_nil]; exact this
      have b5 : fList S [dJ js []] = some (.lst (encJ 0 js)) := by
        rw [dJ, List.append_nil]; rfl
      have e1 : D.tup [.int 0] = dLot [0] := rfl
      have e2 : D.tup [] = dLot [] := rfl
      simp [b5, b1, b2, e1, e2, b3, b4]
    obtain ⟨r5, vs, r50, r51, hvs, tk5⟩ := st_take S1 h0 n us hu stg 5 (by omega)
    have pick : ∃ bad : D, bad ≠ .err ∧ bIx (St S1 n vs stg) (.lst [.non, .lst (encJ 0 js), dJ js [.non], dJ js0 [.tup [.int 0, dLot [0], dLot []]], dJ js (encJ 0 js)]) (.int r5) = some bad ∧ (∀ S, fm_is_journal [dN n, bad] S = .ok (.bl false) S) ∧ (∀ S, fm__law_has_none [dN n, bad] S = .ok (.bl true) S) := by
      have hnr : nrL (encJ 0 js) = true := encJ_nr js 0
      have tw : ∀ (j1 : List (List Int × List Int)) (tl : D) (tr : List D), Jn n j1 (tl :: tr) → dJ j1 (tl :: tr) ≠ .err ∧ (∀ S, fm_is_journal [dN n, dJ j1 (tl :: tr)] S = .ok (.bl false) S) ∧ (∀ S, fm__law_has_none [dN n, dJ j1 (tl :: tr)] S = .ok (.bl true) S) := fun j1 tl tr h => by
        have hg : goodJ n j1 (tl :: tr) = false := by simp [goodJ, goodR]
        refine ⟨by simp, fun S => ?_, fun S => has_none_of (n := n) _ (by simp) S (seen_bad w h hg S)⟩
        have := is_journal_w w h S
        rw [hg] at this; exact this
      have nt : ∀ d : D, (d = .non ∨ ∃ xs, d = .lst xs) → d.nr = true → d ≠ .err ∧ (∀ S, fm_is_journal [dN n, d] S = .ok (.bl false) S) ∧ (∀ S, fm__law_has_none [dN n, d] S = .ok (.bl true) S) := fun d hd hr => by
        have hz : d ≠ .err := by rcases hd with rfl | ⟨xs, rfl⟩ <;> exact fun z => nomatch z
        exact ⟨hz, fun S => audited_n w d hd hr S, fun S => has_none_of (n := n) _ hz S (seen_n w d hd hr S)⟩
      have hr5 : r5 = 0 ∨ r5 = 1 ∨ r5 = 2 ∨ r5 = 3 ∨ r5 = 4 := by omega
      rcases hr5 with rfl | rfl | rfl | rfl | rfl
      · obtain ⟨a, b, c⟩ := nt .non (.inl rfl) rfl
        exact ⟨_, a, by simp, b, c⟩
      · obtain ⟨a, b, c⟩ := nt (.lst (encJ 0 js)) (.inr ⟨_, rfl⟩) (by simpa using hnr)
        exact ⟨_, a, by simp, b, c⟩
      · obtain ⟨a, b, c⟩ := tw js .non [] ⟨hv, (fun d r z => by
          cases z
          exact ⟨.inr (.inl rfl), rfl, fun z => nomatch z⟩), rfl⟩
        exact ⟨_, a, by simp, b, c⟩
      · obtain ⟨a, b, c⟩ := tw js0 (.tup [.int 0, dLot [0], dLot []]) [] ⟨v0, (fun d r z => by
          cases z
          exact ⟨.inr (.inr (.inr rfl)), by simp, fun z => nomatch z⟩), by simp⟩
        exact ⟨_, a, by simp, b, c⟩
      · cases hj0 : js with
        | nil => rw [hj0] at hjl; simp at hjl; omega
        | cons y q =>
          rw [hj0] at hv hnr hjl
          obtain ⟨a, b, c⟩ := tw (y :: q) (encE 0 y) (encJ 1 q) ⟨hv, (fun d r z => by
            cases z
            exact ⟨.inr (.inr (.inl ⟨_, _, _, rfl, by simp; omega⟩)), by simp [encE], fun z => nomatch z⟩), hnr⟩
          refine ⟨_, a, ?_, b, c⟩
          have : bIx (St S1 n vs stg) (.lst [.non, .lst (encJ 0 (y :: q)), dJ (y :: q) [.non], dJ js0 [.tup [.int 0, dLot [0], dLot []]], dJ (y :: q) (encJ 0 (y :: q))]) (.int 4) = some (dJ (y :: q) (encJ 0 (y :: q))) := by
            rw [bIx_lst]; exact atD_nat _ 4
          exact this
    obtain ⟨bad, bz, bx, bj, bn⟩ := pick
    have s6 : sSet (.nm 5) (eBin bIx (eVar 4) (eCall fm__law_take (aCons (eVar 1) (aCons (eBuilt fLen (aCons (eVar 4) aNil)) aNil)))) [some (.scr row), some (.ref 0), some (dN n), o3, some (.lst [.non, .lst (encJ 0 js), dJ js [.non], dJ js0 [.tup [.int 0, dLot [0], dLot []]], dJ js (encJ 0 js)]), none, some (.ref S1.length), some (dJ js []), some (dLot c), o9, o10, o11, o12] (St S1 n us stg) = .nx [some (.scr row), some (.ref 0), some (dN n), o3, some (.lst [.non, .lst (encJ 0 js), dJ js [.non], dJ js0 [.tup [.int 0, dLot [0], dLot []]], dJ js (encJ 0 js)]), some bad, some (.ref S1.length), some (dJ js []), some (dLot c), o9, o10, o11, o12] (St S1 n vs stg) := by
      simp [-bIx_lst, tk5, bx]
    have bff : ∀ S : Store, bIs S (.bl false) (.bl false) = some (.bl true) := fun S => rfl
    have s7 : (sRet (eAndV (eBin bIs (eCall fm_is_journal (aCons (eVar 2) (aCons (eVar 5) aNil))) (eC (.bl false))) (eCall fm__law_has_none (aCons (eVar 2) (aCons (eVar 5) aNil))))) [some (.scr row), some (.ref 0), some (dN n), o3, some (.lst [.non, .lst (encJ 0 js), dJ js [.non], dJ js0 [.tup [.int 0, dLot [0], dLot []]], dJ js (encJ 0 js)]), some bad, some (.ref S1.length), some (dJ js []), some (dLot c), o9, o10, o11, o12] (St S1 n vs stg) = .rt (.bl true) (St S1 n vs stg) := by
      simp [bz, bj, bff, bn]
    exact ⟨St S1 n vs stg, fnR_as rfl ((congrArg ofO2 (seq_nx s1 (seq_nx s2 (seq_nx s3 (seq_nx s4 (seq_nx (hE _) (seq_nx s6 s7))))))).trans rfl)⟩
  · refine ⟨S', fnR_as rfl ?_⟩
    have s4 : sFor (.nm 3) (iRange1 (eBin bAdd (eC (.int 1)) (eCall fm__law_take (aCons (eVar 1) (aCons (eC (.int 8)) aNil))))) bodyL [some (.scr row), some (.ref 0), some (dN n), none, none, none, some (.ref S1.length), some (dJ [] []), some (dLot []), none, none, none, none] (St S1 n ys ([] ++ [dPl 0 (ts0 n.many)])) = .rt (.bl true) S' := by
      rw [sFor_ev, it]; exact g1
    refine (congrArg ofO2 (seq_nx s1 (seq_nx s2 (seq_nx s3 (o := .rt (.bl true) S') ?_)))).trans rfl
    show sSeq (sFor _ _ bodyL) _ _ _ = _
    rw [sSeq_ev, s4]
end K97
end

set_option Elab.async false
set_option linter.all false
set_option maxRecDepth 100000
set_option maxHeartbeats 0
/-! Z: the statement. By an AI agent. -/
namespace GZ
open PySem PySem.Spec PyProof.Rows L2
/-- a law over a head by facts; what flies may hang on the world -/
theorem lawEnd {l : PySem.W.OpenLaw} {m lv : Nat} {pq : Program} {lo : List Str} {XP : (Str → Option Value) → Heap → Prop} {YP : World → Heap → Prop} {dr : DefRec} {C : World → CXT} {ar : Str}
    (h1 : l.most = some m) (h2 : m ≤ sizeLine) (h3 : dr.params.defaults = []) (h4 : Room lv callerA)
    (h5 : ∀ (w : World) (mg : Str → Option Value) (fa : Addr) (hp : Heap), YP w hp → hp.Ns mainGlobals mg → mg dr.name = some (.ref fa) →
      ∃ (K : PySem.W.Frag) (fd : FuncData) (sp : Sp), K.In hp ∧ (∀ (s : Shared) (u : Value), BindsTo s fd ⟨[u], []⟩ [(ar, u)]) ∧
        (∀ (H : Hp) (a : Addr) (ns : List Int), ns.length ≤ m → Only H → SqL K H a (ns.map V.int) → sp [.ref a] H (fun v _ => v = .bl true) fun _ _ _ => False) ∧
        ∀ bs : Heap, K.In bs → bs.Ns mainGlobals mg → FnOk l.prog w K mg bs (C w) lv fa fd [ar] sp)
    (h6 : ∀ (w : World) (H : Hp) (s : Shared) (e : Value) (s' : Shared), ¬ C w [] H s (fun _ _ _ => False) e s') :
    PySem.W.WalkO pq lo XP YP l.row.toRowW dr [] (fun f vs => PySem.call f vs) := by
  refine Att.attach_call h1 h3 ?_
  intro w s0 s1 mg mb fa o pm cd doc a vs ns G Y ho hd hcd e1 e2 e3 e4 e5
  obtain ⟨K, fd, sp, q1, q2, q3, q4⟩ := h5 w mg fa _ Y G.T.g e1
  refine law_call q1 G.T.g G.T.b G.T.builtins G.T.nolimit e5 e2 e3 (Nat.le_trans e4 h2) h4 q4 q2 ?_ ?_
  · intro H hO hS
    exact q3 H a ns e4 hO hS
  · intro H e s' z
    exact h6 w H s1 e s' z
end GZ
namespace K97
open PySem PySem.Spec PyProof.Rows L2 G
section
variable {P : Program} {w : World} {K : PySem.W.Frag} {mg : Str → Option Value} {base : Heap}
theorem ok_lawF {fd : FuncData} (T : Tp K mg) (F : FunD K d_law.name d_law.qual d_law.params d_law.body d_law.scope (d_law.dvs K) (d_law.kws K) (He.fAd K d_law.at_) fd) : GF P w K mg base (nm K) 10 (He.fAd K ("law", none)) fd ps_law fm_law := by
  exact gf_R F sc_law (fun cdv A outer s H E hr tk hp => ((gss_cons (gs_set (gc2 (T.glo (i := 78) rfl) (ok__law_draws T) (by decide) tk hr (g_var 0) g_int) (gp_name (i := 1) sc_law.nd))
    (gss_cons (gs_set (gc4 (T.glo (i := 84) rfl) (ok__law_net T) (by decide) tk hr (g_var 1) g_int g_int g_int) (gp_name (i := 2) sc_law.nd))
    (gss_cons (gs_par3 (i := 6) (j := 7) (l := 8) rfl sc_law.nd (ga_cons (gmk1 (T.mkr (i := 122) rfl) (ok_Live___init__ T) (by decide) tk hr (T.glo (i := 77) rfl) (g_var 2)) (ga_cons (g_tup ga_nil) (ga_cons (g_tup ga_nil) ga_nil))) (by rfl))
    (gss_cons (gs_for hp rfl (gi_range1 (gp_add g_int (gc2 (T.glo (i := 79) rfl) (ok__law_take T) (by decide) tk hr (g_var 1) g_int)) (T.free (i := 107) rfl)) (gp_name (i := 3) sc_law.nd) (gss_cons (gs_set (g_tup (ga_cons (gm0 (T.clsOk (i := 121) rfl) (T.meth (i := 124) rfl) (fnmL_neB (bad := [6]) (by decide)) (ok_Live_minute T) (by decide) tk hr (g_var 6) ) (ga_cons (gm0 (T.clsOk (i := 121) rfl) (T.meth (i := 125) rfl) (fnmL_neB (bad := [5]) (by decide)) (ok_Live_times T) (by decide) tk hr (g_var 6) ) ga_nil))) (gp_name (i := 9) sc_law.nd))
    (gss_cons (gs_set (gb_tuple (T.free (i := 109) rfl) (g_lc (own := [("event", 11)]) rfl sc_law.nd (gi_seq (gc2 (T.glo (i := 87) rfl) (ok__law_left T) (by decide) tk hr (g_var 2) (gm0 (T.clsOk (i := 121) rfl) (T.meth (i := 125) rfl) (fnmL_neB (bad := [5]) (by decide)) (ok_Live_times T) (by decide) tk hr (g_var 6) ))) (blkOk_by (by rfl)) (by decide) (fun _ _ _ _ _ => (gp_name (i := 11) sc_law.nd)) (fun _ _ _ _ _ => (ptsG_one (gtq_eq hr (gc2 (T.glo (i := 79) rfl) (ok__law_take T) (by decide) Takes.wf hr (g_var 1) g_int) g_int))) (fun _ _ _ _ _ => (g_var 11)))) (gp_name (i := 10) sc_law.nd))
    (gss_cons (gs_for hp rfl (gi_seq (g_var 10)) (gp_name (i := 11) sc_law.nd) (gss_one (gs_expr (gm1 (T.clsOk (i := 121) rfl) (T.meth (i := 126) rfl) (fnmL_neB (bad := []) (by decide)) (ok_Live_come T) (by decide) tk hr (g_var 6) (g_var 11)))))
    (gss_cons (gs_set (gp_add (g_var 7) (g_tup (ga_cons (g_tup (ga_cons (g_var 3) (ga_cons (g_var 8) (ga_cons (g_var 10) ga_nil)))) ga_nil))) (gp_name (i := 7) sc_law.nd))
    (gss_cons (gs_if (gt_not (gt_tr (gc3 (T.glo (i := 93) rfl) (ok__law_is_minute_right T) (by decide) tk hr (g_var 2) (g_var 6) (g_var 7)))) (gss_one (gs_ret g_bl)) gss_nil)
    (gss_cons (gs_if (gt_tr (gm0 (T.clsOk (i := 121) rfl) (T.meth (i := 132) rfl) (fnmL_neB (bad := []) (by decide)) (ok_Live_is_over T) (by decide) tk hr (g_var 6) )) (gss_one (gs_ret (gq_in hr (gix hr (gc2 (T.glo (i := 71) rfl) (ok_audited T) (by decide) tk hr (g_var 2) (gp_add (g_var 7) (g_tup (ga_cons (g_tup (ga_cons (gp_add (g_var 3) g_int) (ga_cons (g_tup ga_nil) (ga_cons (g_tup ga_nil) ga_nil)))) ga_nil)))) g_int) (g_tup (ga_cons (g_str (cs := [119, 114, 111, 110, 103]) rfl) (ga_cons (g_str (cs := [98, 114, 111, 107, 101, 110]) rfl) ga_nil)))))) gss_nil)
    (gss_cons (gs_if (gt_not (gt_tr (gc4 (T.glo (i := 94) rfl) (ok__law_are_ends_right T) (by decide) tk hr (g_var 2) (g_var 6) (g_var 9) (g_var 10)))) (gss_one (gs_ret g_bl)) gss_nil)
    (gss_cons (gs_set (gc3 (T.glo (i := 63) rfl) (ok_ends_next T) (by decide) tk hr (g_var 2) (g_var 9) (g_var 10)) (gp_name (i := 12) sc_law.nd))
    (gss_cons (gs_set (gix hr (g_var 12) (gc2 (T.glo (i := 79) rfl) (ok__law_take T) (by decide) tk hr (g_var 1) (gb_len (T.free (i := 103) rfl) (g_var 12)))) (gp_name (i := 8) sc_law.nd))
    (gss_one (gs_expr (gm1 (T.clsOk (i := 121) rfl) (T.meth (i := 127) rfl) (fnmL_neB (bad := []) (by decide)) (ok_Live_go T) (by decide) tk hr (g_var 6) (g_var 8))))))))))))))
    (gss_cons (gs_set (g_lst (ga_cons g_non (ga_cons (gb_list rfl (T.free (i := 104) rfl) (g_var 7)) (ga_cons (gp_add (g_var 7) (g_tup (ga_cons g_non ga_nil))) (ga_cons (gp_add (g_slice (g_var 7) go_no (go_so (g_neg g_int))) (g_tup (ga_cons (g_tup (ga_cons g_int (ga_cons (g_tup (ga_cons g_int ga_nil)) (ga_cons (g_tup ga_nil) ga_nil)))) ga_nil))) (ga_cons (gp_add (g_var 7) (g_var 7)) ga_nil)))))) (gp_name (i := 4) sc_law.nd))
    (gss_cons (gs_set (gix hr (g_var 4) (gc2 (T.glo (i := 79) rfl) (ok__law_take T) (by decide) tk hr (g_var 1) (gb_len (T.free (i := 103) rfl) (g_var 4)))) (gp_name (i := 5) sc_law.nd))
    (gss_one (gs_ret (g_and (gq_is (gc2 (T.glo (i := 72) rfl) (ok_is_journal T) (by decide) tk hr (g_var 2) (g_var 5)) g_bl) (g_one (gc2 (T.glo (i := 91) rfl) (ok__law_has_none T) (by decide) tk hr (g_var 2) (g_var 5)))))))))))) : GSs _ _ _ (defBody s_law) m_law))
end
def spL (K : PySem.W.Frag) : Sp := spG K (nm K) 1 fm_law
theorem sp_true (K : PySem.W.Frag) (H : Hp) (a : Addr) (ns : List Int) (hO : Only H) (hS : SqL K H a (ns.map V.int)) : spL K [.ref a] H (fun v _ => v = .bl true) fun _ _ _ => False := by
  have hs : ScrR K H a (ns.map V.int) := by
    rcases hS with (h | ⟨o, h⟩) | h
    · rcases hO a with z | ⟨o, xs, z⟩
      · rw [z] at h; cases h
      · rw [z] at h; cases h
    · exact .inl ⟨o, h⟩
    · exact .inr h
  refine ⟨[.scr ns], [], ⟨[], [], []⟩, ⟨rfl, List.nodup_nil, (fun _ z => by cases z), (fun _ z => by cases z), (fun n so z => by cases z), (fun _ _ _ z => by cases z)⟩, ⟨_, _, rfl, ⟨a, rfl, hs⟩, rfl⟩, rfl, ?_⟩
  obtain ⟨S', e⟩ := law_w ns
  rw [e]
  intro ρ' v H' _ _ rv
  exact rv
theorem factsL {P : Program} {w : World} {K : PySem.W.Frag} {h : Heap} {mg : Str → Option Value} {f : Addr} (X : K.In h) (G : h.Ns mainGlobals mg) (hfa : mg ("law" : Str) = some (.ref f)) (c : He.SaysD fa fn K) (e : ext K = true) :
    ∃ fd : FuncData, (∀ (s : Shared) (v : Value), BindsTo s fd ⟨[v], []⟩ [("script", v)]) ∧ ∀ base : Heap, K.In base → base.Ns mainGlobals mg → FnOk P w K mg base (L2.CX P w) 10 f fd ["script"] (spL K) := by
  have T : Tp K mg := ⟨h, X, G, c, e⟩
  obtain ⟨fd, F⟩ := T.def_ (i := 61) (d := d_law) rfl
  have e1 : f = He.fAd K ("law", none) := by
    have := hfa.symm.trans (T.glo (i := 95) rfl)
    cases this; rfl
  subst e1
  have b := FunD.bindsA (ps := ["script"]) F fun _ _ _ _ _ _ us hl => match us, hl with | [_], _ => rfl
  exact ⟨fd, fun s v => b s [v] rfl, fun base _ _ => ok_lawF T F⟩
end K97
open PySem PySem.W PySem.Calls PyProof.Rows
theorem PySem.Challenge.cw_howeverlong_k97_whole_journals_of_live_r_holds : PySem.Challenge.rw_howeverlong_k97_whole_journals_of_live_r.Holds := by
  w_on; o_law
  refine HandSHeadRun.head_any (r := OpenLaw.row PySem.Challenge.rw_howeverlong_k97_whole_journals_of_live_r) (q := view (OpenLaw.row PySem.Challenge.rw_howeverlong_k97_whole_journals_of_live_r).prog [107]) (H := K97.hk) (ob := K97.ob) (M := K97.steps) (loose := K97.loose) (d := HandSHeadRun.topDef (OpenLaw.row PySem.Challenge.rw_howeverlong_k97_whole_journals_of_live_r).prog 107) (kwd := []) K97.ob_eq
    (by kernel_rfl) (fun s => by kernel_rfl) K97.run (by kernel_rfl) (by kernel_rfl) (by kernel_rfl) (by rfl) (by first | assumption | decide +kernel) (by decide +kernel) ⟨rfl, rfl, rfl, rfl, rfl, by decide +kernel⟩ ?hw ?hc
  case hw => w_witness2
  case hc =>
    refine GZ.lawEnd (l := PySem.Challenge.rw_howeverlong_k97_whole_journals_of_live_r) (m := 63) (lv := 10) (ar := "script") (C := fun w => L2.CX (PySem.Challenge.rw_howeverlong_k97_whole_journals_of_live_r).prog w) rfl (by decide) (by kernel_rfl) ⟨rfl, by decide, by decide⟩ ?F ?X
    case X =>
      intro w H s e s' z
      obtain ⟨a, B, H', cls, d, _, _, _, _, _, _, _, q⟩ := z
      exact q
    case F =>
      intro w mg fa h Y G hmg0
      obtain ⟨K, KX, c, ex⟩ := Y
      have hmg : mg ("law" : PySem.Str) = some (.ref fa) := by
        have e : (HandSHeadRun.topDef (OpenLaw.row PySem.Challenge.rw_howeverlong_k97_whole_journals_of_live_r).prog 107).name = ("law" : PySem.Str) := by kernel_rfl
        rw [← e]
        exact hmg0
      obtain ⟨fd, hb, hF⟩ := K97.factsL (P := (PySem.Challenge.rw_howeverlong_k97_whole_journals_of_live_r).prog) (w := w) KX G hmg c ex
      exact ⟨K, fd, K97.spL K, KX, hb, fun H a ns hl hO hS => K97.sp_true K H a ns hO hS, hF⟩
