import PyProof.Rows.All
import Wide.All
import OpenK.AllK
import Wide.FinOn
import KE.KStateDown
import HandS.Base
import HandS.Call
import HandS.Ends
import HandS.More
import HandS.Words
import HandS.WordsExc
import HandS.Defaults
import HandS.HeadHook1
import HandS.HeadHook2
import HandS.HeadHook3
import HandS.HeadHook4
import HandS.Head0
import HandS.Head1
import HandS.Head2
import HandS.HeadEnd
import HandS.List
import HandS.Comp
import HandS.Dict
import HandS.Iter
import HandS.WordsList
import HandS.WordsDict
import KE.GoesNew
import KE.SortData
import HandS.Zip
import HandS.IsInst
import HandS.Deep
import HandS.TupAny
import HandS.TupLen
import HandS.Conv
import HandS.Style
import HandS.Steps
import HandS.Text
import PyProof.SeqIndex
import KE.LtData
import HandS.Wide
import PyProof.FactsLen
import PyProof.Rows.FactsT1
import PyProof.Rows.FactsT2
import PyProof.Rows.FactsT3
import PyProof.Rows.SeqGen
import PyProof.Rows.SeqCalls
import PyProof.Rows.FactsN_isinstance
import KE.KLam
import KE.KNest
import HandS.Lambda
import HandS.Nested
import HandS.TupSets
import HandS.DictEq
import HandS.HeadWalk
import HandS.NestedK
import PySem.Challenge.RW_editlots_k63_whole_three_replicas_in_any
set_option Elab.async false
set_option linter.all false
set_option maxRecDepth 100000
set_option maxHeartbeats 4000000
/-! EdText: the text by places; the defs and the facts that the head tells. Printed by genhead.py. -/
namespace Ed
open PySem L2

def topS (i : Nat) : Stmt := PySem.Challenge.pw_editlots_k63_whole_three_replicas_in_any.main.body.getD i (.Pass ⟨0, 0, 0, 0⟩)
abbrev s_is_whole : Stmt := topS 14
abbrev s_is_between : Stmt := topS 15
abbrev s_is_below : Stmt := topS 16
abbrev s_is_lot : Stmt := topS 19
abbrev s_want_lot : Stmt := topS 20
abbrev s_joined : Stmt := topS 21
abbrev s_is_name : Stmt := topS 26
abbrev s_want_name : Stmt := topS 27
abbrev s_is_sizes : Stmt := topS 32
abbrev s_is_hands : Stmt := topS 33
abbrev s_are_hands : Stmt := topS 34
abbrev s_wrong_part : Stmt := topS 35
abbrev s_is_kind : Stmt := topS 36
abbrev s_is_amount : Stmt := topS 37
abbrev s_is_state : Stmt := topS 38
abbrev s_state_of : Stmt := topS 39
abbrev s_moved_by : Stmt := topS 40
abbrev s_step_of : Stmt := topS 41
abbrev s_are_few : Stmt := topS 44
abbrev s_first_wrong : Stmt := topS 45
abbrev s_made_fields : Stmt := topS 46
abbrev s_want_record : Stmt := topS 47
abbrev s_is_amounts : Stmt := topS 48
abbrev s_amounts_of : Stmt := topS 49
abbrev s_steps_between : Stmt := topS 50
abbrev s_amounts_behind : Stmt := topS 51
abbrev s_record_at : Stmt := topS 52
abbrev s_is_id : Stmt := topS 56
abbrev s_is_ids : Stmt := topS 57
abbrev s_want_ids : Stmt := topS 58
abbrev s_want_entries : Stmt := topS 59
abbrev s_law_pool : Stmt := topS 64
abbrev s_law_take : Stmt := topS 65
abbrev s_law_one : Stmt := topS 66
abbrev s_law_mixed : Stmt := topS 67
abbrev s_law_some : Stmt := topS 68
abbrev s_law_v_all_amounts : Stmt := topS 69
abbrev s_law_v_sizes : Stmt := topS 70
abbrev s_law_v_kind : Stmt := topS 71
abbrev s_law_v_put : Stmt := topS 72
abbrev s_law_v_from_to : Stmt := topS 73
abbrev s_law_v_state : Stmt := topS 74
abbrev s_law_v_fields : Stmt := topS 75
abbrev s_law_v_some_record : Stmt := topS 76
abbrev s_law_v_amounts : Stmt := topS 77
abbrev s_law_v_moved : Stmt := topS 78
abbrev s_law_v_steps : Stmt := topS 79
abbrev s_law_v_record_at : Stmt := topS 80
abbrev s_law_v_barred_at : Stmt := topS 81
abbrev s_law_v_both : Stmt := topS 82
abbrev s_law_v_replica : Stmt := topS 83
abbrev s_law_v_ids : Stmt := topS 84
abbrev s_law_v_amounts_by_ids : Stmt := topS 85
abbrev s_law_v_edited_here : Stmt := topS 86
abbrev s_law_v_packet : Stmt := topS 87
abbrev s_law_v_taken : Stmt := topS 88
abbrev s_law_v_heard : Stmt := topS 89
abbrev s_law_is_like : Stmt := topS 90
abbrev s_law_heard_right : Stmt := topS 91
abbrev s_law_turn_right : Stmt := topS 92
abbrev s_law_all_met : Stmt := topS 93
abbrev s_law_one_record : Stmt := topS 94
abbrev s_law : Stmt := topS 95
abbrev s_Replica_init : Stmt := inClass (topS 60) 0
abbrev s_Replica_want_known : Stmt := inClass (topS 60) 1
abbrev s_Replica_want_lot : Stmt := inClass (topS 60) 2
abbrev s_Replica_amounts_at : Stmt := inClass (topS 60) 3
abbrev s_Replica_edit : Stmt := inClass (topS 60) 4
abbrev s_Replica_known : Stmt := inClass (topS 60) 5
abbrev s_Replica_amounts : Stmt := inClass (topS 60) 6
abbrev s_Replica_record : Stmt := inClass (topS 60) 7
abbrev s_Replica_barred : Stmt := inClass (topS 60) 8
abbrev s_Replica_packet : Stmt := inClass (topS 60) 9
abbrev s_Replica_is_unlike : Stmt := inClass (topS 60) 10
abbrev s_Replica_take : Stmt := inClass (topS 60) 11
abbrev s_Replica_set_head : Stmt := inClass (topS 60) 12
abbrev s_Replica_head : Stmt := inClass (topS 60) 13
abbrev s_Replica_heads : Stmt := inClass (topS 60) 14
abbrev s_Replica_hear : Stmt := inClass (topS 60) 15
abbrev s_Vault_init : Stmt := inClass (topS 62) 0
abbrev s_Vault_edits : Stmt := inClass (topS 62) 3
abbrev s_Vault_amounts_in : Stmt := inClass (topS 62) 4
abbrev s_Vault_edit : Stmt := inClass (topS 62) 6
abbrev s_Vault_want_edit : Stmt := inClass (topS 62) 7
abbrev s_Vault_steps_of : Stmt := inClass (topS 62) 8
abbrev s_Vault_amounts : Stmt := inClass (topS 62) 10
def dG (x : Str) (st : Stmt) : He.DefD := ⟨(x, none), x, x, defArgs st, defBody st, defScope st, [], []⟩
def dM (c m q : Str) (st : Stmt) : He.DefD := ⟨(c, some m), m, q, defArgs st, defBody st, defScope st, [], []⟩
def fnL0 : List He.DefD := [dG "is_whole" s_is_whole,
  dG "is_between" s_is_between,
  dG "is_below" s_is_below,
  dG "is_lot" s_is_lot,
  dG "want_lot" s_want_lot,
  dG "joined" s_joined,
  dG "is_name" s_is_name,
  dG "want_name" s_want_name,
  dG "is_sizes" s_is_sizes,
  dG "is_hands" s_is_hands,
  dG "are_hands" s_are_hands,
  dG "wrong_part" s_wrong_part,
  dG "is_kind" s_is_kind,
  dG "is_amount" s_is_amount,
  dG "is_state" s_is_state,
  dG "state_of" s_state_of,
  dG "moved_by" s_moved_by,
  dG "step_of" s_step_of,
  dG "are_few" s_are_few,
  dG "first_wrong" s_first_wrong,
  dG "made_fields" s_made_fields,
  dG "want_record" s_want_record,
  dG "is_amounts" s_is_amounts,
  dG "amounts_of" s_amounts_of,
  dG "steps_between" s_steps_between,
  dG "amounts_behind" s_amounts_behind,
  dG "record_at" s_record_at,
  dG "is_id" s_is_id,
  dG "is_ids" s_is_ids,
  dG "want_ids" s_want_ids]
def fnL1 : List He.DefD := [dG "want_entries" s_want_entries,
  dG "_law_pool" s_law_pool,
  dG "_law_take" s_law_take,
  dG "_law_one" s_law_one,
  dG "_law_mixed" s_law_mixed,
  dG "_law_some" s_law_some,
  dG "_law_v_all_amounts" s_law_v_all_amounts,
  dG "_law_v_sizes" s_law_v_sizes,
  dG "_law_v_kind" s_law_v_kind,
  dG "_law_v_put" s_law_v_put,
  dG "_law_v_from_to" s_law_v_from_to,
  dG "_law_v_state" s_law_v_state,
  dG "_law_v_fields" s_law_v_fields,
  dG "_law_v_some_record" s_law_v_some_record,
  dG "_law_v_amounts" s_law_v_amounts,
  dG "_law_v_moved" s_law_v_moved,
  dG "_law_v_steps" s_law_v_steps,
  dG "_law_v_record_at" s_law_v_record_at,
  dG "_law_v_barred_at" s_law_v_barred_at,
  dG "_law_v_both" s_law_v_both,
  dG "_law_v_replica" s_law_v_replica,
  dG "_law_v_ids" s_law_v_ids,
  dG "_law_v_amounts_by_ids" s_law_v_amounts_by_ids,
  dG "_law_v_edited_here" s_law_v_edited_here,
  dG "_law_v_packet" s_law_v_packet,
  dG "_law_v_taken" s_law_v_taken,
  dG "_law_v_heard" s_law_v_heard,
  dG "_law_is_like" s_law_is_like,
  dG "_law_heard_right" s_law_heard_right,
  dG "_law_turn_right" s_law_turn_right]
def fnL2 : List He.DefD := [dG "_law_all_met" s_law_all_met,
  dG "_law_one_record" s_law_one_record,
  dG "law" s_law,
  dM "Replica" "__init__" "Replica.__init__" s_Replica_init,
  dM "Replica" "want_known" "Replica.want_known" s_Replica_want_known,
  dM "Replica" "want_lot" "Replica.want_lot" s_Replica_want_lot,
  dM "Replica" "amounts_at" "Replica.amounts_at" s_Replica_amounts_at,
  dM "Replica" "edit" "Replica.edit" s_Replica_edit,
  dM "Replica" "known" "Replica.known" s_Replica_known,
  dM "Replica" "amounts" "Replica.amounts" s_Replica_amounts,
  dM "Replica" "record" "Replica.record" s_Replica_record,
  dM "Replica" "barred" "Replica.barred" s_Replica_barred,
  dM "Replica" "packet" "Replica.packet" s_Replica_packet,
  dM "Replica" "is_unlike" "Replica.is_unlike" s_Replica_is_unlike,
  dM "Replica" "take" "Replica.take" s_Replica_take,
  dM "Replica" "set_head" "Replica.set_head" s_Replica_set_head,
  dM "Replica" "head" "Replica.head" s_Replica_head,
  dM "Replica" "heads" "Replica.heads" s_Replica_heads,
  dM "Replica" "hear" "Replica.hear" s_Replica_hear,
  dM "Vault" "__init__" "Vault.__init__" s_Vault_init,
  dM "Vault" "edits" "Vault.edits" s_Vault_edits,
  dM "Vault" "amounts_in" "Vault.amounts_in" s_Vault_amounts_in,
  dM "Vault" "edit" "Vault.edit" s_Vault_edit,
  dM "Vault" "want_edit" "Vault.want_edit" s_Vault_want_edit,
  dM "Vault" "steps_of" "Vault.steps_of" s_Vault_steps_of,
  dM "Vault" "amounts" "Vault.amounts" s_Vault_amounts]
def fnL : List He.DefD := fnL0 ++ (fnL1 ++ (fnL2))
def faL0 : List He.Fa := [.glo "is_whole",
  .glo "is_between",
  .glo "is_below",
  .glo "is_lot",
  .glo "want_lot",
  .glo "joined",
  .glo "is_name",
  .glo "want_name",
  .glo "is_sizes",
  .glo "is_hands",
  .glo "are_hands",
  .glo "wrong_part",
  .glo "is_kind",
  .glo "is_amount",
  .glo "is_state",
  .glo "state_of",
  .glo "moved_by",
  .glo "step_of",
  .glo "are_few",
  .glo "first_wrong",
  .glo "made_fields",
  .glo "want_record",
  .glo "is_amounts",
  .glo "amounts_of",
  .glo "steps_between",
  .glo "amounts_behind",
  .glo "record_at",
  .glo "is_id",
  .glo "is_ids",
  .glo "want_ids"]
def faL1 : List He.Fa := [.glo "want_entries",
  .glo "_law_pool",
  .glo "_law_take",
  .glo "_law_one",
  .glo "_law_mixed",
  .glo "_law_some",
  .glo "_law_v_all_amounts",
  .glo "_law_v_sizes",
  .glo "_law_v_kind",
  .glo "_law_v_put",
  .glo "_law_v_from_to",
  .glo "_law_v_state",
  .glo "_law_v_fields",
  .glo "_law_v_some_record",
  .glo "_law_v_amounts",
  .glo "_law_v_moved",
  .glo "_law_v_steps",
  .glo "_law_v_record_at",
  .glo "_law_v_barred_at",
  .glo "_law_v_both",
  .glo "_law_v_replica",
  .glo "_law_v_ids",
  .glo "_law_v_amounts_by_ids",
  .glo "_law_v_edited_here",
  .glo "_law_v_packet",
  .glo "_law_v_taken",
  .glo "_law_v_heard",
  .glo "_law_is_like",
  .glo "_law_heard_right",
  .glo "_law_turn_right"]
def faL2 : List He.Fa := [.glo "_law_all_met",
  .glo "_law_one_record",
  .glo "law",
  .glo "Replica",
  .cls "Replica",
  .mkr "Replica",
  .noat "Replica" "hand",
  .noat "Replica" "fields",
  .noat "Replica" "first",
  .noat "Replica" "steps",
  .noat "Replica" "made",
  .noat "Replica" "by_name",
  .glo "Vault",
  .cls "Vault",
  .mkr "Vault",
  .noat "Vault" "kinds",
  .noat "Vault" "beginning",
  .noat "Vault" "steps",
  .noat "Vault" "bases",
  .meth "Replica" "__init__",
  .meth "Replica" "want_known",
  .meth "Replica" "want_lot",
  .meth "Replica" "amounts_at",
  .meth "Replica" "edit",
  .meth "Replica" "known",
  .meth "Replica" "amounts",
  .meth "Replica" "record",
  .meth "Replica" "barred",
  .meth "Replica" "packet",
  .meth "Replica" "is_unlike"]
def faL3 : List He.Fa := [.meth "Replica" "take",
  .meth "Replica" "set_head",
  .meth "Replica" "head",
  .meth "Replica" "heads",
  .meth "Replica" "hear",
  .meth "Vault" "__init__",
  .meth "Vault" "edits",
  .meth "Vault" "amounts_in",
  .meth "Vault" "edit",
  .meth "Vault" "want_edit",
  .meth "Vault" "steps_of",
  .meth "Vault" "amounts",
  .int "MOST_EDITS_lotwork" 400,
  .int "MOST_IN_NAME" 12,
  .int "MOST_SIZES" 12,
  .int "LEAST_SIZE" 2,
  .int "MOST_STATES" 12,
  .int "MOST_FIELDS" 6,
  .int "MOST_EDITS_replicas" 400,
  .str "LETTERS" "abcdefghijklmnopqrstuvwxyz",
  .str "FIGURES" "0123456789",
  .free "isinstance",
  .free "bool",
  .free "int",
  .free "tuple",
  .free "all",
  .free "len",
  .free "range",
  .free "sorted",
  .free "set"]
def faL4 : List He.Fa := [.free "zip",
  .free "enumerate",
  .free "str",
  .free "max",
  .free "min",
  .free "list"]
def faL : List He.Fa := faL0 ++ (faL1 ++ (faL2 ++ (faL3 ++ (faL4))))
def looseL0 : List PySem.Str := ["_wall",
  "__name__",
  "Refused",
  "BadFields",
  "BadRecord",
  "BadLot",
  "Full",
  "NoEdit",
  "BadName",
  "NoBranch",
  "Missing",
  "BadPacket",
  "Unlike",
  "is_whole",
  "is_between",
  "is_below",
  "MOST_EDITS_lotwork",
  "is_lot",
  "want_lot",
  "joined",
  "LETTERS",
  "FIGURES",
  "MOST_IN_NAME",
  "is_name",
  "want_name",
  "MOST_SIZES",
  "LEAST_SIZE",
  "MOST_STATES",
  "is_sizes",
  "is_hands"]
def looseL1 : List PySem.Str := ["are_hands",
  "wrong_part",
  "is_kind",
  "is_amount",
  "is_state",
  "state_of",
  "moved_by",
  "step_of",
  "MOST_FIELDS",
  "are_few",
  "first_wrong",
  "made_fields",
  "want_record",
  "is_amounts",
  "amounts_of",
  "steps_between",
  "amounts_behind",
  "record_at",
  "barred_in",
  "MOST_EDITS_replicas",
  "is_id",
  "is_ids",
  "want_ids",
  "want_entries",
  "Replica",
  "Vault",
  "_law_pool",
  "_law_take",
  "_law_one",
  "_law_mixed"]
def looseL2 : List PySem.Str := ["_law_some",
  "_law_v_all_amounts",
  "_law_v_sizes",
  "_law_v_kind",
  "_law_v_put",
  "_law_v_from_to",
  "_law_v_state",
  "_law_v_fields",
  "_law_v_some_record",
  "_law_v_amounts",
  "_law_v_moved",
  "_law_v_steps",
  "_law_v_record_at",
  "_law_v_barred_at",
  "_law_v_both",
  "_law_v_replica",
  "_law_v_ids",
  "_law_v_amounts_by_ids",
  "_law_v_edited_here",
  "_law_v_packet",
  "_law_v_taken",
  "_law_v_heard",
  "_law_is_like",
  "_law_heard_right",
  "_law_turn_right",
  "_law_all_met",
  "_law_one_record"]
def looseL : List PySem.Str := looseL0 ++ (looseL1 ++ (looseL2))
def tfL : List He.Defn := [("Replica", some "take"), ("Replica", some "hear")]
end Ed

set_option maxHeartbeats 0
/-! EdHead: the top by one kernel run, with the facts that the walk asks. The reach is our own: a level at a time, nothing sieved. -/
namespace Ed
open PySem PySem.Spec PyProof.Rows L2
abbrev RR : PySem.W.OpenRow := PySem.W.OpenLaw.row PySem.Challenge.rw_editlots_k63_whole_three_replicas_in_any
/-- what the walk follows: a namespace's values, a def's code, a class's namespace -/
def refsE (o : Obj) : List Addr := match o.data with
  | .dict es _ => es.toList.flatMap fun e => He.refV e.val
  | .func fd => He.refV fd.code
  | .cls cd => [cd.ns]
  | _ => []
def nextE (g : Addr → Option Obj) (as : List Addr) : List Addr := as.flatMap fun a => match g a with
  | some o => refsE o
  | none => []
def asE (g : Addr → Option Obj) (n : Nat) (as : List Addr) : List Addr := match n with
  | 0 => as
  | n + 1 => as ++ asE g n (nextE g as)
def krE (g : Addr → Option Obj) : PySem.W.Frag := He.frG g (asE g 4 [mainGlobals])
def tabsE0 (g : Addr → Option Obj) (K : PySem.W.Frag) : Bool := tfL.all fun p => PySem.W.codeHdIn K (He.cT K p).1 (He.cT K p).2 && ((K.lookup (He.cT K p).2).isNone && (match g (He.cT K p).2 with
  | some o => He.emptyTab o
  | none => false))
/-- the two lambdas' tables are two -/
def twoE (K : PySem.W.Frag) : Bool := !decide ((He.cT K ("Replica", some "take")).2 = (He.cT K ("Replica", some "hear")).2)
def tabsE (g : Addr → Option Obj) (K : PySem.W.Frag) : Bool := tabsE0 g K && twoE K
def obsK (g : Addr → Option Obj) (K : PySem.W.Frag) : He.AlX := (He.obsT faL fnL [] K, tabsE g K)
def obsG (g : Addr → Option Obj) : He.AlX := obsK g (krE g)
theorem says_of {w : World} {h : Heap} (e : obsG h.get? = He.valX fnL [] w) : He.SaysX faL fnL [] tfL (fun _ => true) w h (krE h.get?) ∧ twoE (krE h.get?) = true := by
  have e1 : He.obsT faL fnL [] (krE h.get?) = He.valT fnL [] w := congrArg Prod.fst e
  have e3 : tabsE h.get? (krE h.get?) = true := congrArg Prod.snd e
  obtain ⟨e2, e4⟩ := He.ba e3
  have key : ∀ p ∈ tfL, PySem.W.codeHdIn (krE h.get?) (He.cT (krE h.get?) p).1 (He.cT (krE h.get?) p).2 = true ∧ (krE h.get?).lookup (He.cT (krE h.get?) p).2 = none ∧ h.get? (He.cT (krE h.get?) p).2 = some { cls := .none, data := .fields #[] } := by
    intro p hp
    have q := List.all_eq_true.mp e2 p hp
    obtain ⟨q1, q2⟩ := He.ba q
    obtain ⟨q3, q4⟩ := He.ba q2
    refine ⟨q1, Option.isNone_iff_eq_none.mp q3, ?_⟩
    cases z : h.get? (He.cT (krE h.get?) p).2 with
    | none => rw [z] at q4; cases q4
    | some o => rw [z] at q4; rw [He.emptyTab_eq q4]
  exact ⟨⟨e1, rfl, fun p hp => (key p hp).1, fun p hp => (key p hp).2.1, fun p hp => (key p hp).2.2⟩, e4⟩
def hkE : PySem.W.Hook where
  α := He.AlX
  obs := fun s => obsG s.heap.get?
  val := fun w => He.valX fnL [] w
  says := fun w h => ∃ K : PySem.W.Frag, K.In h ∧ He.SaysX faL fnL [] tfL (fun _ => true) w h K ∧ twoE K = true
  of := fun _ _ e => ⟨_, He.frG_in, says_of e⟩
  keeps := fun _ _ _ ⟨K, hK, c, t⟩ k => ⟨K, PySem.W.Frag.In.keeps hK k, ⟨c.t, c.more, c.hd, c.out, fun p hp => k _ _ (c.empty p hp)⟩, t⟩
def obE (s : PySem.W.SharedT) : He.AlX := obsG (HandSHeadRun.getT s)
theorem obE_eq (s : PySem.W.SharedT) : obE s = hkE.obs s.abs := by
  have e : HandSHeadRun.getT s = s.abs.heap.get? := funext (HandSHeadRun.getT_eq s)
  show obsG (HandSHeadRun.getT s) = obsG s.abs.heap.get?
  rw [e]
theorem runE (w : World) : HandSHeadRun.RunEq RR (PySem.W.view RR.prog [95]) hkE obE 30000 looseL w := by
  intro os
  kernel_rfl
end Ed

set_option maxHeartbeats 1000000
/-! EdGv: data in the heap (Rep), systems of addresses that may change (Sys), readings that evaluate to data (Gv, GvA, GvT, GvL, GvI). -/
namespace Ed
open PySem L2

/-! ### data -/
mutual
/-- the value v is the data d: tuples are tracked tuples; a «list» is a tuple whose very object is known (one that is asked for its index) -/
inductive Rep (H : Hp) : V → PyData → Prop
  | non : Rep H .non .none
  | int (i : Int) : Rep H (.int i) (.int i)
  | str (x : Str) : Rep H (.str x) (.str x)
  | tup {a : Addr} {xs : List V} {ds : List PyData} : H a = some (.tup xs) → Reps H xs ds → Rep H (.ref a) (.tuple ds)
  | frz {a : Addr} {o : Obj} {xs : List V} {ds : List PyData} : H a = some (.frz o (.tup xs)) → o.dict = none → Reps H xs ds → Rep H (.ref a) (.list ds)
inductive Reps (H : Hp) : List V → List PyData → Prop
  | nil : Reps H [] []
  | cons {v : V} {vs : List V} {d : PyData} {ds : List PyData} : Rep H v d → Reps H vs ds → Reps H (v :: vs) (d :: ds)
end
/-- what a value is told to be: data, or this very value -/
inductive Ob where
  | dat (d : PyData) | val (v : V)
def Is (H : Hp) (v : V) : Ob → Prop
  | .dat d => Rep H v d
  | .val x => v = x
inductive IsL (H : Hp) : List V → List Ob → Prop
  | nil : IsL H [] []
  | cons {v : V} {vs : List V} {d : Ob} {ds : List Ob} : Is H v d → IsL H vs ds → IsL H (v :: vs) (d :: ds)

/-- tuples stay -/
structure Tups (H H' : Hp) : Prop where
  t : ∀ b xs, H b = some (.tup xs) → H' b = some (.tup xs)
  f : ∀ b o xs, H b = some (.frz o (.tup xs)) → H' b = some (.frz o (.tup xs))
mutual
theorem Rep.mono {H H' : Hp} (t : Tups H H') : ∀ {d : PyData} {v : V}, Rep H v d → Rep H' v d
  | _, _, .non => .non
  | _, _, .int i => .int i
  | _, _, .str x => .str x
  | _, _, .tup h r => .tup (t.t _ _ h) (Reps.mono t r)
  | _, _, .frz h e r => .frz (t.f _ _ _ h) e (Reps.mono t r)
theorem Reps.mono {H H' : Hp} (t : Tups H H') : ∀ {ds : List PyData} {vs : List V}, Reps H vs ds → Reps H' vs ds
  | _, _, .nil => .nil
  | _, _, .cons h r => .cons (Rep.mono t h) (Reps.mono t r)
end
theorem Is.mono {H H' : Hp} (t : Tups H H') {v : V} {o : Ob} (h : Is H v o) : Is H' v o := by
  cases o with
  | dat d => exact Rep.mono t h
  | val x => exact h
theorem IsL.mono {H H' : Hp} (t : Tups H H') {vs : List V} {os : List Ob} (h : IsL H vs os) : IsL H' vs os := by
  induction h with
  | nil => exact .nil
  | cons h _ ih => exact .cons (h.mono t) ih
theorem IsL.length {H : Hp} {vs : List V} {os : List Ob} (h : IsL H vs os) : vs.length = os.length := by
  induction h with
  | nil => rfl
  | cons _ _ ih => simp [ih]
theorem IsL.get {H : Hp} {vs : List V} {os : List Ob} (h : IsL H vs os) : ∀ {i : Nat} {v : V} {o : Ob}, vs[i]? = some v → os[i]? = some o → Is H v o := by
  induction h with
  | nil => intro i v o e; simp at e
  | cons h _ ih =>
    intro i v o e1 e2
    cases i with
    | zero => simp at e1 e2; subst e1 e2; exact h
    | succ i => exact ih (by simpa using e1) (by simpa using e2)
theorem IsL.append {H : Hp} {vs ws : List V} {os ps : List Ob} (h : IsL H vs os) (h2 : IsL H ws ps) : IsL H (vs ++ ws) (os ++ ps) := by
  induction h with
  | nil => exact h2
  | cons h _ ih => exact .cons h ih
theorem IsL.one {H : Hp} {v : V} {o : Ob} (h : Is H v o) : IsL H [v] [o] := .cons h .nil
theorem Reps.length {H : Hp} : ∀ {ds : List PyData} {vs : List V}, Reps H vs ds → vs.length = ds.length
  | _, _, .nil => rfl
  | _, _, .cons _ r => by simp [Reps.length r]
theorem Reps.isL {H : Hp} : ∀ {ds : List PyData} {vs : List V}, Reps H vs ds → IsL H vs (ds.map Ob.dat)
  | _, _, .nil => .nil
  | _, _, .cons h r => .cons h (Reps.isL r)
theorem IsL.reps {H : Hp} : ∀ {ds : List PyData} {vs : List V}, IsL H vs (ds.map Ob.dat) → Reps H vs ds
  | [], _, h => by cases h; exact .nil
  | d :: ds, _, h => by
    cases h with
    | cons h r => exact .cons h (IsL.reps r)
theorem Reps.get {H : Hp} {ds : List PyData} {vs : List V} (h : Reps H vs ds) {i : Nat} {v : V} {d : PyData} (e1 : vs[i]? = some v) (e2 : ds[i]? = some d) : Rep H v d :=
  h.isL.get (o := .dat d) e1 (by rw [List.getElem?_map, e2]; rfl)
theorem Rep.inv {H : Hp} {v : V} {ds : List PyData} (h : Rep H v (.tuple ds)) : ∃ a xs, v = .ref a ∧ H a = some (.tup xs) ∧ Reps H xs ds := by
  cases h with
  | tup h r => exact ⟨_, _, rfl, h, r⟩
theorem Rep.inv_int {H : Hp} {v : V} {i : Int} (h : Rep H v (.int i)) : v = .int i := by cases h; rfl
theorem Rep.inv_str {H : Hp} {v : V} {x : Str} (h : Rep H v (.str x)) : v = .str x := by cases h; rfl
theorem Rep.inv_non {H : Hp} {v : V} (h : Rep H v .none) : v = .non := by cases h; rfl
/-- d is a row of the things ds: a tuple, or one whose object is known -/
def Row (d : PyData) (ds : List PyData) : Prop := d = .tuple ds ∨ d = .list ds
theorem Rep.row {K : PySem.W.Frag} {H : Hp} {v : V} {d : PyData} {ds : List PyData} (r : Row d ds) (h : Rep H v d) : ∃ a xs, v = .ref a ∧ SqT K H a xs ∧ Reps H xs ds ∧ (H a = some (.tup xs) ∨ ∃ o, H a = some (.frz o (.tup xs)) ∧ o.dict = none) := by
  rcases r with rfl | rfl
  · cases h with
    | tup h r => exact ⟨_, _, rfl, SqT.of h, r, .inl h⟩
  · cases h with
    | frz h e r => exact ⟨_, _, rfl, .inl (.inr ⟨_, h⟩), r, .inr ⟨_, h, e⟩⟩
mutual
/-- without a known object -/
def noL : PyData → Bool
  | .list _ => false
  | .tuple ds => noLs ds
  | _ => true
def noLs : List PyData → Bool
  | [] => true
  | d :: ds => noL d && noLs ds
end
mutual
theorem Rep.dp {K : PySem.W.Frag} {H : Hp} : ∀ {d : PyData} {v : V}, Rep H v d → noL d = true → Dp K H v d
  | _, _, .non, _ => .non
  | _, _, .int i, _ => .int i
  | _, _, .str x, _ => .str x
  | _, _, .tup h r, n => .tup (SqT.of h) (Reps.dp r (by simpa only [noL] using n))
  | _, _, .frz h e r, n => by simp [noL] at n
theorem Reps.dp {K : PySem.W.Frag} {H : Hp} : ∀ {ds : List PyData} {vs : List V}, Reps H vs ds → noLs ds = true → DpAll K H vs ds
  | _, _, .nil, _ => .nil
  | _, _, .cons h r, n => by
    simp only [noLs, Bool.and_eq_true] at n
    exact .cons (Rep.dp h n.1) (Reps.dp r n.2)
end

/-! ### a system: the addresses that may change, what holds of them -/
def mutO : HO → Bool
  | .lst _ => true
  | .dK _ => true
  | .dT _ => true
  | .ins _ _ _ => true
  | .own _ => true
  | .tbl _ => true
  | _ => false
structure Sys where
  M : Addr → Prop
  J : Hp → Prop
  mt : ∀ H a, J H → M a → ∃ o, H a = some o ∧ mutO o = true
  loc : ∀ H H', J H → (∀ a, M a → H' a = H a) → J H'
theorem Sys.live (S : Sys) (H : Hp) (a : Addr) (j : S.J H) (m : S.M a) : H a ≠ none := fun e => by
  obtain ⟨o, h, _⟩ := S.mt H a j m
  rw [e] at h; cases h
/-- nothing changes -/
def S0 : Sys := ⟨fun _ => False, fun _ => True, fun _ _ _ h => h.elim, fun _ _ _ _ => trivial⟩
structure Sys.T (S : Sys) (H H' : Hp) : Prop where
  j : S.J H
  j' : S.J H'
  k : ∀ a o, ¬ S.M a → H a = some o → H' a = some o
variable {S : Sys} {H H' H1 H2 : Hp}
theorem Sys.T.refl (h : S.J H) : S.T H H := ⟨h, h, fun _ _ _ e => e⟩
theorem Sys.T.trans (a : S.T H H1) (b : S.T H1 H2) : S.T H H2 := ⟨a.j, b.j', fun x o n e => b.k x o n (a.k x o n e)⟩
theorem Sys.T.start (a : S.T H H1) : S.T H H := .refl a.j
theorem Sys.T.fin (a : S.T H H1) : S.T H1 H1 := .refl a.j'
theorem Sys.T.tups (a : S.T H H1) : Tups H H1 := by
  refine ⟨fun b xs e => a.k b _ (fun m => ?_) e, fun b o u e => a.k b _ (fun m => ?_) e⟩
  · obtain ⟨u, h, z⟩ := S.mt H b a.j m
    rw [e] at h; cases h; cases z
  · obtain ⟨u, h, z⟩ := S.mt H b a.j m
    rw [e] at h; cases h; cases z
theorem Sys.T.of_same (j : S.J H) (s : Same H H') : S.T H H' := by
  refine ⟨j, S.loc H H' j fun a m => ?_, fun a o _ e => s a o e⟩
  cases e : H a with
  | none => exact (S.live H a j m e).elim
  | some o => exact s a o e
theorem same_upd {p : Addr} {o : HO} (h : H p = none) : Same H (upd H p o) := fun b u e => by rw [upd_ne (ne_of_none e h)]; exact e
theorem Sys.T.new {p : Addr} {o : HO} (j : S.J H) (h : H p = none) : S.T H (upd H p o) := .of_same j (same_upd h)
theorem Sys.T.free (a : S.T H H1) {p : Addr} (h : H1 p = none) : H p = none := by
  cases e : H p with
  | none => rfl
  | some o =>
    by_cases m : S.M p
    · exact (S.live H1 p a.j' m h).elim
    · rw [a.k p o m e] at h; cases h
theorem Sys.notM {p : Addr} (j : S.J H) (h : H p = none) : ¬ S.M p := fun m => S.live H p j m h
/-- an object that H does not know may change -/
theorem Sys.T.mut (a : S.T H H1) {p : Addr} {o : HO} (h : H p = none) : S.T H (upd H1 p o) := by
  have np := S.notM a.j h
  refine ⟨a.j, S.loc H1 _ a.j' fun b m => upd_ne fun e => np (e ▸ m), fun b u n e => ?_⟩
  rw [upd_ne (ne_of_none e h)]
  exact a.k b u n e
theorem S0.same (a : S0.T H H1) : Same H H1 := fun b o e => a.k b o (fun z => z) e
theorem S0.of (s : Same H H1) : S0.T H H1 := .of_same trivial s
theorem S0.r : S0.T H H := .refl trivial
theorem Is.to {v : V} {o : Ob} (h : Is H v o) (a : S.T H H1) : Is H1 v o := h.mono a.tups
theorem IsL.to {v : List V} {o : List Ob} (h : IsL H v o) (a : S.T H H1) : IsL H1 v o := h.mono a.tups
theorem Same.tups (s : Same H H1) : Tups H H1 := ⟨fun b xs e => s b _ e, fun b o u e => s b _ e⟩

/-! ### readings that evaluate -/
def Gv (S : Sys) (te : TE) (σ : St) (H : Hp) (o : Ob) : Prop := ∀ H1, S.T H H1 → ∀ Q : VK, (∀ v H2, S.T H1 H2 → Is H2 v o → Q v H2) → te σ H1 Q
def GvT (S : Sys) (tt : TT) (σ : St) (H : Hp) (b : Bool) : Prop := ∀ H1, S.T H H1 → ∀ Q : Bool → Hp → Prop, (∀ H2, S.T H1 H2 → Q b H2) → tt σ H1 Q
def GvA (S : Sys) (ta : TA) (σ : St) (H : Hp) (os : List Ob) : Prop := ∀ H1, S.T H H1 → ∀ Q : List V → Hp → Prop, (∀ vs H2, S.T H1 H2 → IsL H2 vs os → Q vs H2) → ta σ H1 Q
/-- a new list -/
def GvL (S : Sys) (te : TE) (σ : St) (H : Hp) (os : List Ob) : Prop := ∀ H1, S.T H H1 → ∀ Q : VK, (∀ p xs H2, H1 p = none → S.T H1 H2 → H2 p = some (.lst xs) → IsL H2 xs os → Q (.ref p) H2) → te σ H1 Q
/-- something walked: C tells of it -/
def GvI (S : Sys) (wi : TI) (σ : St) (H : Hp) (C : It → Hp → Prop) : Prop := ∀ H1, S.T H H1 → ∀ R : It → Hp → Prop, (∀ J H2, S.T H1 H2 → C J H2 → R J H2) → wi σ H1 R
/-- n turns, the i-th yields what Y tells -/
structure Wk (S : Sys) (J : It) (n : Nat) (Y : Nat → V → Hp → Prop) (H : Hp) : Prop where
  go : ∀ i H', i < n → S.T H H' → J.go i H'
  stop : ∀ H', S.T H H' → J.stop n H'
  yld : ∀ i x H' H'', i < n → S.T H H' → J.yld i H' x H'' → S.T H' H'' ∧ Same H' H'' ∧ Y i x H''

variable {σ : St} {te ta tb tc : TE} {tt tu : TT} {tr : TA} {o p q : Ob} {os ps : List Ob} {b c : Bool} {v x y z : V} {K : PySem.W.Frag}
theorem Gv.mono (h : Gv S te σ H o) (a : S.T H H1) : Gv S te σ H1 o := fun H2 b => h H2 (a.trans b)
theorem GvT.mono (h : GvT S tt σ H b) (a : S.T H H1) : GvT S tt σ H1 b := fun H2 b => h H2 (a.trans b)
theorem GvA.mono (h : GvA S tr σ H os) (a : S.T H H1) : GvA S tr σ H1 os := fun H2 b => h H2 (a.trans b)
theorem GvL.mono (h : GvL S te σ H os) (a : S.T H H1) : GvL S te σ H1 os := fun H2 b => h H2 (a.trans b)
theorem Gv.fin (h : Gv S te σ H o) (j : S.J H) {Q : VK} (k : ∀ v H1, S.T H H1 → Is H1 v o → Q v H1) : te σ H Q := h H (.refl j) Q k
theorem GvT.fin (h : GvT S tt σ H b) (j : S.J H) {Q : Bool → Hp → Prop} (k : ∀ H1, S.T H H1 → Q b H1) : tt σ H Q := h H (.refl j) Q k
theorem GvL.fin (h : GvL S te σ H os) (j : S.J H) {Q : VK} (k : ∀ p xs H1, H p = none → S.T H H1 → H1 p = some (.lst xs) → IsL H1 xs os → Q (.ref p) H1) : te σ H Q := h H (.refl j) Q k
theorem Gv.cast (h : Gv S te σ H o) (e : o = p) : Gv S te σ H p := e ▸ h
theorem GvT.cast (h : GvT S tt σ H b) (e : b = c) : GvT S tt σ H c := e ▸ h
theorem GvL.cast (h : GvL S te σ H os) (e : os = ps) : GvL S te σ H ps := e ▸ h

/-! ### names, constants -/
theorem gv_var {i : Nat} (h : σ[i]? = some (some v)) (hv : Is H v o) : Gv S (tVar i) σ H o := fun H1 a Q k => ⟨v, h, k v H1 a.fin (hv.to a)⟩
theorem gv_val {i : Nat} (h : σ[i]? = some (some v)) : Gv S (tVar i) σ H (.val v) := gv_var h rfl
theorem gv_c (hv : Is H v o) : Gv S (tC v) σ H o := fun H1 a Q k => k v H1 a.fin (hv.to a)
theorem gv_cv : Gv S (tC v) σ H (.val v) := gv_c rfl
theorem Gv.int_dat {i : Int} (h : Gv S te σ H (.val (.int i))) : Gv S te σ H (.dat (.int i)) := fun H1 a Q k => h H1 a Q fun v H2 t e => k v H2 t (by cases e; exact .int i)
theorem Gv.int_val {i : Int} (h : Gv S te σ H (.dat (.int i))) : Gv S te σ H (.val (.int i)) := fun H1 a Q k => h H1 a Q fun v H2 t e => k v H2 t (Rep.inv_int e)
theorem Gv.str_dat {i : Str} (h : Gv S te σ H (.val (.str i))) : Gv S te σ H (.dat (.str i)) := fun H1 a Q k => h H1 a Q fun v H2 t e => k v H2 t (by cases e; exact .str i)
theorem Gv.str_val {i : Str} (h : Gv S te σ H (.dat (.str i))) : Gv S te σ H (.val (.str i)) := fun H1 a Q k => h H1 a Q fun v H2 t e => k v H2 t (Rep.inv_str e)
theorem Gv.non_dat (h : Gv S te σ H (.val .non)) : Gv S te σ H (.dat .none) := fun H1 a Q k => h H1 a Q fun v H2 t e => k v H2 t (by cases e; exact .non)
theorem Gv.non_val (h : Gv S te σ H (.dat .none)) : Gv S te σ H (.val .non) := fun H1 a Q k => h H1 a Q fun v H2 t e => k v H2 t (Rep.inv_non e)

/-! ### operators -/
/-- an operator that makes nothing -/
def RG (S : Sys) (r : R2) (o p : Ob) (H : Hp) (q : Ob) : Prop := ∀ H1, S.T H H1 → ∀ x y, Is H1 x o → Is H1 y p → ∀ Q : VK, (∀ v H2, S.T H1 H2 → Is H2 v q → Q v H2) → r x y H1 Q
theorem gv_op {r : R2} (ha : Gv S ta σ H o) (hb : Gv S tb σ H p) (hr : RG S r o p H q) : Gv S (tOp r ta tb) σ H q := fun H1 a Q k =>
  ha H1 a _ fun x H2 a2 hx => hb H2 (a.trans a2) _ fun y H3 a3 hy => hr H3 ((a.trans a2).trans a3) x y (hx.to a3) hy Q fun v H4 a4 hv => k v H4 ((a2.trans a3).trans a4) hv
theorem rg_I0 {g : Int → Int → V} {i j : Int} : RG S (rI0 g) (.val (.int i)) (.val (.int j)) H (.val (g i j)) := fun H1 a x y hx hy Q k => ⟨i, j, hx, hy, k _ H1 a.fin rfl⟩
theorem rg_I {C : Int → Int → Prop} {g : Int → Int → V} {i j : Int} (h : C i j) : RG S (rI C g) (.val (.int i)) (.val (.int j)) H (.val (g i j)) := fun H1 a x y hx hy Q k => ⟨i, j, hx, hy, h, k _ H1 a.fin rfl⟩
theorem rg_eq {x y : V} (h : scal x y = true) : RG S rEq (.val x) (.val y) H (.val (.bl (decide (x = y)))) := fun H1 a u w hx hy Q k => by
  cases hx; cases hy; exact ⟨h, k _ H1 a.fin rfl⟩
theorem rg_ne {x y : V} (h : scal x y = true) : RG S rNe (.val x) (.val y) H (.val (.bl (!decide (x = y)))) := fun H1 a u w hx hy Q k => by
  cases hx; cases hy; exact ⟨h, k _ H1 a.fin rfl⟩
theorem rg_isN : RG S (fun x y H Q => y = .non ∧ Q (.bl (decide (x = .non))) H) (.val x) (.val .non) H (.val (.bl (decide (x = .non)))) := fun H1 a u w hx hy Q k => by
  cases hx; cases hy; exact ⟨rfl, k _ H1 a.fin rfl⟩
/-- an item of a tuple -/
theorem rg_ix {dd : PyData} {ds : List PyData} {i : Nat} {d : PyData} (h : ds[i]? = some d) (w : Row dd ds := by exact .inl rfl) : RG S (rIxT K) (.dat dd) (.val (.int (i : Int))) H (.dat d) := fun H1 a x y hx hy Q k => by
  obtain ⟨p, xs, rfl, hp, hr, _⟩ := Rep.row (K := K) w hx
  have hl := hr.length
  have hi : i < xs.length := by rw [hl]; exact (List.getElem?_eq_some_iff.mp h).1
  refine ⟨p, xs, i, xs[i], rfl, hy, hp, atI_nat (List.getElem?_eq_getElem hi), k _ H1 a.fin ?_⟩
  exact hr.get (List.getElem?_eq_getElem hi) h
/-- an item of a list -/
theorem rg_ixL {l : Addr} {xs : List V} {i : Nat} (hl : ∀ H1, S.T H H1 → H1 l = some (.lst xs)) (h : xs[i]? = some v) (hv : Is H v o) : RG S (rIxL K) (.val (.ref l)) (.val (.int (i : Int))) H o := fun H1 a x y hx hy Q k => by
  cases hx
  exact ⟨l, xs, i, v, rfl, hy, SqL.of (hl H1 a), atI_nat h, k _ H1 a.fin (hv.to a)⟩

/-! ### tests, and, or, not, if -/
theorem gt_test (h : Gv S te σ H (.val (.bl b))) : GvT S (tTest te) σ H b := fun H1 a Q k => h H1 a _ fun v H2 a2 hv => ⟨b, hv, k H2 a2⟩
theorem gt_B (h : Gv S te σ H (.val (.bl b))) : GvT S (tB te) σ H b := fun H1 a Q k => h H1 a _ fun v H2 a2 hv => ⟨b, hv, k H2 a2⟩
theorem gt_not (h : GvT S tt σ H b) : GvT S (tNot tt) σ H (!b) := fun H1 a Q k => h H1 a _ fun H2 a2 => k H2 a2
theorem gt_and (h1 : GvT S tt σ H b) (h2 : b = true → GvT S tu σ H c) : GvT S (tAnd tt tu) σ H (b && c) := fun H1 a Q k => h1 H1 a _ fun H2 a2 => by
  cases b with
  | true => exact h2 rfl H2 (a.trans a2) Q fun H3 a3 => k H3 (a2.trans a3)
  | false => exact k H2 a2
theorem gt_or (h1 : GvT S tt σ H b) (h2 : b = false → GvT S tu σ H c) : GvT S (tOr tt tu) σ H (b || c) := fun H1 a Q k => h1 H1 a _ fun H2 a2 => by
  cases b with
  | true => exact k H2 a2
  | false => exact h2 rfl H2 (a.trans a2) Q fun H3 a3 => k H3 (a2.trans a3)
theorem gv_andV (h1 : Gv S ta σ H (.val (.bl b))) (h2 : b = true → Gv S tb σ H (.val (.bl c))) : Gv S (tAndV ta tb) σ H (.val (.bl (b && c))) := fun H1 a Q k => h1 H1 a _ fun v H2 a2 hv => ⟨b, hv, by
  cases b with
  | true => exact h2 rfl H2 (a.trans a2) Q fun v H3 a3 e => k v H3 (a2.trans a3) e
  | false => exact k _ H2 a2 rfl⟩
theorem gv_orV (h1 : Gv S ta σ H (.val (.bl b))) (h2 : b = false → Gv S tb σ H (.val (.bl c))) : Gv S (tOrV ta tb) σ H (.val (.bl (b || c))) := fun H1 a Q k => h1 H1 a _ fun v H2 a2 hv => ⟨b, hv, by
  cases b with
  | true => exact k _ H2 a2 rfl
  | false => exact h2 rfl H2 (a.trans a2) Q fun v H3 a3 e => k v H3 (a2.trans a3) e⟩
theorem gv_notV (h : Gv S te σ H (.val (.bl b))) : Gv S (tNotV te) σ H (.val (.bl (!b))) := fun H1 a Q k => h H1 a _ fun v H2 a2 hv => ⟨b, hv, k _ H2 a2 rfl⟩
theorem gv_if (h : GvT S tt σ H b) (h1 : b = true → Gv S ta σ H o) (h2 : b = false → Gv S tb σ H o) : Gv S (tIf tt ta tb) σ H o := fun H1 a Q k => h H1 a _ fun H2 a2 => by
  cases b with
  | true => exact h1 rfl H2 (a.trans a2) Q fun v H3 a3 e => k v H3 (a2.trans a3) e
  | false => exact h2 rfl H2 (a.trans a2) Q fun v H3 a3 e => k v H3 (a2.trans a3) e
/-- a op b op' c -/
theorem gv_chain {r r' : R2} (ha : Gv S ta σ H o) (hb : Gv S tb σ H (.val y)) (hr : RG S r o (.val y) H (.val (.bl b))) (hc : b = true → Gv S tc σ H q) (hr' : b = true → RG S r' (.val y) q H (.val (.bl c))) : Gv S (tChain r r' ta tb tc) σ H (.val (.bl (b && c))) := fun H1 a Q k =>
  ha H1 a _ fun x H2 a2 hx => hb H2 (a.trans a2) _ fun y' H3 a3 hy => hr H3 ((a.trans a2).trans a3) x y' (hx.to a3) hy _ fun z H4 a4 hz => ⟨b, hz, by
    have a5 := (a.trans a2).trans (a3.trans a4)
    cases b with
    | true => exact hc rfl H4 a5 _ fun w H5 a6 hw => hr' rfl H5 (a5.trans a6) y' w hy hw Q fun v H6 a7 hv => k v H6 ((a2.trans (a3.trans a4)).trans (a6.trans a7)) hv
    | false => exact k _ H4 (a2.trans (a3.trans a4)) rfl⟩

/-! ### arguments, displays, calls -/
theorem ga_nil : GvA S tNil σ H [] := fun H1 a Q k => k [] H1 a.fin .nil
theorem ga_cons (h : Gv S te σ H o) (hr : GvA S tr σ H os) : GvA S (tCons te tr) σ H (o :: os) := fun H1 a Q k =>
  h H1 a _ fun x H2 a2 hx => hr H2 (a.trans a2) _ fun xs H3 a3 hxs => k (x :: xs) H3 (a2.trans a3) (.cons (hx.to a3) hxs)
theorem ga_one (h : Gv S te σ H o) : GvA S (tCons te tNil) σ H [o] := ga_cons h ga_nil
theorem ga_two (h : Gv S ta σ H o) (h2 : Gv S tb σ H p) : GvA S (tCons ta (tCons tb tNil)) σ H [o, p] := ga_cons h (ga_one h2)
theorem ga_three (h : Gv S ta σ H o) (h2 : Gv S tb σ H p) (h3 : Gv S tc σ H q) : GvA S (tCons ta (tCons tb (tCons tc tNil))) σ H [o, p, q] := ga_cons h (ga_two h2 h3)
theorem small {n : Nat} (h : n ≤ 100000) : n ≤ sizeLine := Nat.le_trans h (by decide)
theorem gv_tup {ds : List PyData} (h : GvA S tr σ H (ds.map Ob.dat)) (hl : ds.length ≤ 100000) : Gv S (tTup tr) σ H (.dat (.tuple ds)) := fun H1 a Q k =>
  h H1 a _ fun xs H2 a2 hxs => ⟨small (by rw [hxs.length, List.length_map]; exact hl), fun p hp => by
    have a3 : S.T H2 (upd H2 p (.tup xs)) := .new a2.j' hp
    exact k _ _ (a2.trans a3) (.tup upd_same (hxs.to a3).reps)⟩
theorem gl_lst (h : GvA S tr σ H os) (hl : os.length ≤ 100000) : GvL S (tLst tr) σ H os := fun H1 a Q k =>
  h H1 a _ fun xs H2 a2 hxs => ⟨small (by rw [hxs.length]; exact hl), fun p hp => by
    have a3 : S.T H2 (upd H2 p (.lst xs)) := .new a2.j' hp
    exact k p xs _ (a2.free hp) (a2.trans a3) upd_same (hxs.to a3)⟩
/-- a built-in by values -/
def CG (S : Sys) (r : List V → Hp → VK → Prop) (os : List Ob) (H : Hp) (q : Ob) : Prop := ∀ H1, S.T H H1 → ∀ vs, IsL H1 vs os → ∀ Q : VK, (∀ v H2, S.T H1 H2 → Is H2 v q → Q v H2) → r vs H1 Q
theorem gv_cb {r : List V → Hp → VK → Prop} (h : GvA S tr σ H os) (hr : CG S r os H q) : Gv S (tCB r tr) σ H q := fun H1 a Q k =>
  h H1 a _ fun vs H2 a2 hvs => hr H2 (a.trans a2) vs hvs Q fun v H3 a3 hv => k v H3 (a2.trans a3) hv
/-- a pure promise: from data (or values) to one -/
def SpP {ι : Type} (args : ι → List Ob) (pre : ι → Prop) (res : ι → Ob) : Sp := fun vs H Q _ => ∃ i, IsL H vs (args i) ∧ pre i ∧ ∀ v H', Same H H' → Is H' v (res i) → Q v H'
theorem gv_call {ι : Type} {args : ι → List Ob} {pre : ι → Prop} {res : ι → Ob} {E : XK} (i : ι) (h : GvA S tr σ H (args i)) (hp : pre i) : Gv S (tCall (SpP args pre res) [] E tr) σ H (res i) := fun H1 a Q k =>
  h H1 a _ fun vs H2 a2 hvs => ⟨i, by rw [List.append_nil]; exact hvs, hp, fun v H3 s hv => k v H3 (a2.trans (.of_same a2.j' s)) hv⟩
/-- a pure promise of a new list -/
def SpL {ι : Type} (args : ι → List Ob) (pre : ι → Prop) (res : ι → List Ob) : Sp := fun vs H Q _ => ∃ i, IsL H vs (args i) ∧ pre i ∧ ∀ p xs H', H p = none → Same H H' → H' p = some (.lst xs) → IsL H' xs (res i) → Q (.ref p) H'
theorem gl_call {ι : Type} {args : ι → List Ob} {pre : ι → Prop} {res : ι → List Ob} {E : XK} (i : ι) (h : GvA S tr σ H (args i)) (hp : pre i) : GvL S (tCall (SpL args pre res) [] E tr) σ H (res i) := fun H1 a Q k =>
  h H1 a _ fun vs H2 a2 hvs => ⟨i, by rw [List.append_nil]; exact hvs, hp, fun p xs H3 hp s he hv => k p xs H3 (a2.free hp) (a2.trans (.of_same a2.j' s)) he hv⟩
theorem SpP.len {ι : Type} {args : ι → List Ob} {pre : ι → Prop} {res : ι → Ob} {n : Nat} (hn : ∀ i, (args i).length = n) : ∀ vs H Q E, SpP args pre res vs H Q E → vs.length = n := fun vs H Q E ⟨i, h, _, _⟩ => by rw [h.length, hn i]
theorem SpL.len {ι : Type} {args : ι → List Ob} {pre : ι → Prop} {res : ι → List Ob} {n : Nat} (hn : ∀ i, (args i).length = n) : ∀ vs H Q E, SpL args pre res vs H Q E → vs.length = n := fun vs H Q E ⟨i, h, _, _⟩ => by rw [h.length, hn i]
/-- a list made on the way, taken by a built-in at once -/
theorem gv_takeL {r : List V → Hp → VK → Prop} (h : GvL S te σ H os) (hr : ∀ H1 p xs, S.T H H1 → H1 p = some (.lst xs) → IsL H1 xs os → ∀ Q : VK, (∀ v H2, S.T H1 H2 → Is H2 v q → Q v H2) → r [.ref p] H1 Q) : Gv S (tCB r (tCons te tNil)) σ H q := fun H1 a Q k =>
  h H1 a _ fun p xs H2 hp a2 he hxs => hr H2 p xs (a.trans a2) he hxs Q fun v H3 a3 hv => k v H3 (a2.trans a3) hv
theorem IsL.bls {H : Hp} : ∀ {bs : List Bool} {xs : List V}, IsL H xs (bs.map fun b => Ob.val (.bl b)) → xs = bs.map V.bl
  | [], _, h => by cases h; rfl
  | b :: bs, _, h => by
    cases h with
    | cons h r => rw [show _ = V.bl b from h, IsL.bls r]; rfl
theorem gv_all {bs : List Bool} (h : GvL S te σ H (bs.map fun b => Ob.val (.bl b))) : Gv S (tCB (rAll K) (tCons te tNil)) σ H (.val (.bl (bs.all id))) :=
  gv_takeL h fun H1 p xs a he hxs Q k => ⟨p, bs, rfl, SqL.of (by rw [he, hxs.bls]), k _ H1 a.fin rfl⟩

/-! ### comprehensions and loops -/
theorem gl_lc {wi : TI} {g : TG} {vs : List Nat} {n : Nat} {Y : Nat → V → Hp → Prop} {keep : Nat → Bool} {f : Nat → Ob} (hw : GvI S wi σ H fun J H1 => Wk S J n Y H1) (hn : n ≤ 100000)
    (turn : ∀ i x H1, i < n → S.T H H1 → Y i x H1 → ∃ σ2, (∀ Q : St → Hp → Prop, Q σ2 H1 → g x (wipe σ vs) H1 Q) ∧ wipe σ2 vs = wipe σ vs ∧ GvT S tt σ2 H1 (keep i) ∧ (keep i = true → Gv S te σ2 H1 (f i))) :
    GvL S (tLc wi g tt te vs) σ H (((List.range n).filter keep).map f) := fun H1 a Q k => by
  refine hw H1 a _ fun J H2 a2 w D hD => ?_
  have nD : ¬ S.M D := S.notM a2.j' hD
  have acc0 : ∀ i, i ≤ n → (((List.range i).filter keep).map f).length ≤ i := fun i _ => by
    rw [List.length_map]; exact Nat.le_trans (List.length_filter_le _ _) (by simp)
  have snoc : ∀ i, ((List.range (i + 1)).filter keep).map f = ((List.range i).filter keep).map f ++ (if keep i = true then [f i] else []) := fun i => by
    rw [List.range_succ, List.filter_append, List.map_append]
    by_cases hk : keep i = true
    · rw [if_pos hk]; simp [hk]
    · rw [if_neg hk]; simp [hk]
  refine ⟨fun i m H' => m = n - i ∧ i ≤ n ∧ ∃ xs, S.T H2 H' ∧ H' D = some (.lst xs) ∧ IsL H' xs (((List.range i).filter keep).map f), ⟨n, rfl, Nat.zero_le _, [], .new a2.j' hD, upd_same, .nil⟩, ?_⟩
  rintro i m H3 ⟨rfl, hi, xs, a3, hx, hl⟩
  by_cases hlt : i < n
  · refine .inr ⟨w.go i H3 hlt a3, fun H' => ∃ ys, S.T H2 H' ∧ H' D = some (.lst ys) ∧ IsL H' ys (((List.range (i + 1)).filter keep).map f), fun H' ⟨ys, h1, h2, h3⟩ => ⟨n - (i + 1), by omega, rfl, hlt, ys, h1, h2, h3⟩, fun x H4 yy => ?_⟩
    obtain ⟨a4, s4, hy⟩ := w.yld i x H3 H4 hlt a3 yy
    obtain ⟨σ2, hg, hwp, ht, hf⟩ := turn i x H4 hlt ((a.trans a2).trans (a3.trans a4)) hy
    refine hg _ ⟨hwp, ht.fin a4.j' fun H5 a5 => ?_⟩
    have e5 : H5 D = some (.lst xs) := a5.k D _ nD (a4.k D _ nD hx)
    have l5 : IsL H5 xs (((List.range i).filter keep).map f) := hl.to (a4.trans a5)
    have t5 : S.T H2 H5 := a3.trans (a4.trans a5)
    by_cases hk : keep i = true
    · rw [hk]
      refine (hf hk).mono a5 |>.fin a5.j' fun v H6 a6 hv => ?_
      refine ⟨xs, a6.k D _ nD e5, Nat.lt_of_le_of_lt (by rw [hl.length]; exact Nat.le_trans (acc0 i hi) hi) (Nat.lt_of_le_of_lt hn (by decide)), xs ++ [v], ?_⟩
      refine ⟨(t5.trans a6).mut hD, upd_same, ?_⟩
      rw [snoc i, if_pos hk]
      have tp : Tups H6 (upd H6 D (.lst (xs ++ [v]))) := by
        refine ⟨fun b ys e => ?_, fun b o u e => ?_⟩
        · rw [upd_ne fun z => ?_]
          · exact e
          · rw [z, a6.k D _ nD e5] at e
            cases e
        · rw [upd_ne fun z => ?_]
          · exact e
          · rw [z, a6.k D _ nD e5] at e
            cases e
      exact ((l5.to a6).mono tp).append (.one (hv.mono tp))
    · have hk' : keep i = false := by cases z : keep i with | false => rfl | true => exact absurd z hk
      rw [hk']
      exact ⟨xs, t5, e5, by rw [snoc i, if_neg hk, List.append_nil]; exact l5⟩
  · have e : i = n := by omega
    subst e
    exact .inl ⟨w.stop H3 a3, k D xs H3 (a2.free hD) (a2.trans a3) hx hl⟩
end Ed

set_option maxHeartbeats 1000000
/-! EdIt: what the hand layer lacks: zip of three tuples, enumerate of a tuple. -/
namespace Ed
open PySem PySem.Spec PyProof.Rows L2

/-! ### zip of three tuples -/
def ItZ3 (K : PySem.W.Frag) (a b c : Addr) : It :=
  ⟨fun i H => ∃ (xs ys zs : List V) (x y z : V), SqT K H a xs ∧ SqT K H b ys ∧ SqT K H c zs ∧ xs[i]? = some x ∧ ys[i]? = some y ∧ zs[i]? = some z,
    fun i H v H' => ∃ T x y z, v = .ref T ∧ H T = none ∧ H' = upd H T (.tup [x, y, z]) ∧ (∀ xs, SqT K H a xs → xs[i]? = some x) ∧ (∀ ys, SqT K H b ys → ys[i]? = some y) ∧ ∀ zs, SqT K H c zs → zs[i]? = some z,
    fun i H => ∃ xs ys zs : List V, SqT K H a xs ∧ SqT K H b ys ∧ SqT K H c zs ∧ i = min (min xs.length ys.length) zs.length⟩
theorem ne_it {h : Heap} {a t it : Addr} {items : Array Value} {i : Nat} (x : IsTup h a items) (y : h.IsTupleIter it t i) : a ≠ it := fun e => by
  obtain ⟨o, h1, h2, _⟩ := x
  obtain ⟨u, g1, g2, _⟩ := y
  rw [e, g1] at h1; cases h1
  rw [g2] at h2
  exact absurd h2 (by decide)
theorem turn_zip3 {P : Program} {w : World} {K : PySem.W.Frag} {elts : List Expr} {kk : Nat} {tpos : Pos} {a b c z TI TO i1 i2 i3 : Addr} (D : ZipSep3 z TI TO i1 i2 i3 [i1, a] [i2, b] [i3, c]) :
    Turn P w K (.Tuple elts kk tpos) (ItZ3 K a b c) [z, TI, TO, i1, i2, i3] z (fun i h => IsZip h z TI TO .none ∧ IsTupOf3 h TI (.ref i1) (.ref i2) (.ref i3) ∧ (∃ p q r, IsTupOf3 h TO p q r) ∧ h.IsTupleIter i1 a i ∧ h.IsTupleIter i2 b i ∧ h.IsTupleIter i3 c i) where
  mem := by simp
  obj := fun i h st d hd => by
    obtain ⟨hz, hTI, ⟨p, q, r, hTO⟩, ⟨o1, e1, _, d1⟩, ⟨o2, e2, _, d2⟩, ⟨o3, e3, _, d3⟩⟩ := st
    have e' : d = z ∨ d = TI ∨ d = TO ∨ d = i1 ∨ d = i2 ∨ d = i3 := by simpa using hd
    rcases e' with q | q | q | q | q | q
    · rw [q]; exact ⟨_, hz, fun v q => nomatch q⟩
    · rw [q]; exact ⟨_, hTI, fun v q => nomatch q⟩
    · rw [q]; exact ⟨_, hTO, fun v q => nomatch q⟩
    · rw [q]; exact ⟨o1, e1, fun v q => by rw [d1] at q; cases q⟩
    · rw [q]; exact ⟨o2, e2, fun v q => by rw [d2] at q; cases q⟩
    · rw [q]; exact ⟨o3, e3, fun v q => by rw [d3] at q; cases q⟩
  keep := fun i h h' st k => by
    obtain ⟨hz, hTI, ⟨p, q, r, hTO⟩, h1, h2, h3⟩ := st
    exact ⟨k z (by simp) _ hz, k TI (by simp) _ hTI, ⟨p, q, r, k TO (by simp) _ hTO⟩, h1.at fun o q => k i1 (by simp) o q, h2.at fun o q => k i2 (by simp) o q, h3.at fun o q => k i3 (by simp) o q⟩
  item := by
    intro X hP hw hK hc i pins s σ H E I hf st hg
    subst hP hw hK
    obtain ⟨hz, hTI, hTO, h1, h2, h3⟩ := st
    obtain ⟨xs, ys, zs, x, y, u, hqx, hqy, hqz, hx, hy, hu⟩ := hg
    obtain ⟨its, rv, p1, _⟩ := I.tuple hqx
    obtain ⟨its2, rv2, p2, _⟩ := I.tuple hqy
    obtain ⟨its3, rv3, p3, _⟩ := I.tuple hqz
    have hh := I.ok.hd hc
    have W := GoesN.zip3 (prog := X.prog) (w := X.w) (A := X.A) (elts := elts) (x1 := kk) (pos := tpos) D (Draws.tuple (A := X.A.in1) hh i1 a (ne_it p1 h1) its.toArray)
      (Draws.tuple (A := X.A.in1) hh i2 b (ne_it p2 h2) its2.toArray) (Draws.tuple (A := X.A.in1) hh i3 c (ne_it p3 h3) its3.toArray)
    have lt : i < min (min its.toArray.size its2.toArray.size) its3.toArray.size := by
      have l1 := rv.length
      have l2 := rv2.length
      have l3 := rv3.length
      have m1 := (List.getElem?_eq_some_iff.mp hx).1
      have m2 := (List.getElem?_eq_some_iff.mp hy).1
      have m3 := (List.getElem?_eq_some_iff.mp hu).1
      simp only [List.size_toArray]
      omega
    refine thn (W.goes i s (fun v s2 => ∃ x' H', Inv X pins σ H' s2 ∧ RelV x' v ∧ (ItZ3 X.K a b c).yld i H x' H' ∧ (IsZip s2.heap z TI TO .none ∧ IsTupOf3 s2.heap TI (.ref i1) (.ref i2) (.ref i3) ∧ (∃ p q r, IsTupOf3 s2.heap TO p q r) ∧ s2.heap.IsTupleIter i1 a (i + 1) ∧ s2.heap.IsTupleIter i2 b (i + 1) ∧ s2.heap.IsTupleIter i3 c (i + 1)) ∧ ∀ b ∈ [z, TI, TO, i1, i2, i3], H' b = none) E lt ⟨hz, hTI, hTO, ⟨h1, p1⟩, ⟨h2, p2⟩, h3, p3⟩ fun v h' tk hY st' hk htk => ?_) fun r s1 h => h
    obtain ⟨T, v1, v2, v3, rfl, hT, e1, e2, e3, hTt⟩ := hY
    obtain ⟨w1, hw1, r1⟩ := rv.get hx
    obtain ⟨w2, hw2, r2⟩ := rv2.get hy
    obtain ⟨w3, hw3, r3⟩ := rv3.get hu
    have q1 : v1 = w1 := Option.some.inj (e1.symm.trans (by simpa using hw1))
    have q2 : v2 = w2 := Option.some.inj (e2.symm.trans (by simpa using hw2))
    have q3 : v3 = w3 := Option.some.inj (e3.symm.trans (by simpa using hw3))
    subst q1 q2 q3
    have new : ObjOk X.prog X.w (upd H T (.tup [x, y, u])) h' T (.tup [x, y, u]) := ⟨by show 3 ≤ sizeLine; decide, [v1, v2, v3], .cons r1 (.cons r2 (.cons r3 .nil)), hTt⟩
    have I1 := I.turnedNew (t' := tk) (ch := [z, TO, i1, i2, i3]) hk (fun b hb => hf b (by revert hb; simp; intro hb; rcases hb with q | q | q | q | q <;> simp [q])) hT new
    have hlt : ∀ d ∈ [z, TI, TO, i1, i2, i3], d < s.heap.objs.size := fun d hd => by
      have e' : d = z ∨ d = TI ∨ d = TO ∨ d = i1 ∨ d = i2 ∨ d = i3 := by simpa using hd
      obtain ⟨_, _, _, hTO⟩ := hTO
      rcases e' with q | q | q | q | q | q
      · rw [q]; exact Heap.lt_size hz
      · rw [q]; exact Heap.lt_size hTI
      · rw [q]; exact Heap.lt_size hTO
      · rw [q]; obtain ⟨_, q1, _⟩ := h1; exact Heap.lt_size q1
      · rw [q]; obtain ⟨_, q1, _⟩ := h2; exact Heap.lt_size q1
      · rw [q]; obtain ⟨_, q1, _⟩ := h3; exact Heap.lt_size q1
    obtain ⟨g1, g2, g3, ⟨g4, _⟩, ⟨g5, _⟩, g6, _⟩ := st'
    refine ⟨.ref T, _, I1, rfl, ⟨T, x, y, u, rfl, I.hok.fresh hT, rfl, fun l hl => by rw [I.tuple_inj hl hqx]; exact hx, fun l hl => by rw [I.tuple_inj hl hqy]; exact hy, fun l hl => by rw [I.tuple_inj hl hqz]; exact hu⟩, ⟨g1, g2, g3, g4, g5, g6⟩, fun d hd => ?_⟩
    rw [upd_ne (Nat.ne_of_lt (Nat.lt_of_lt_of_le (hlt d hd) hT))]
    exact (hf d hd).1
  done := by
    intro X hP hw hK hc i pins s σ H E I hf st hg
    subst hP hw hK
    obtain ⟨hz, hTI, hTO, h1, h2, h3⟩ := st
    obtain ⟨xs, ys, zs, hqx, hqy, hqz, hi⟩ := hg
    obtain ⟨its, rv, p1, _⟩ := I.tuple hqx
    obtain ⟨its2, rv2, p2, _⟩ := I.tuple hqy
    obtain ⟨its3, rv3, p3, _⟩ := I.tuple hqz
    have hh := I.ok.hd hc
    have W := GoesN.zip3 (prog := X.prog) (w := X.w) (A := X.A) (elts := elts) (x1 := kk) (pos := tpos) D (Draws.tuple (A := X.A.in1) hh i1 a (ne_it p1 h1) its.toArray)
      (Draws.tuple (A := X.A.in1) hh i2 b (ne_it p2 h2) its2.toArray) (Draws.tuple (A := X.A.in1) hh i3 c (ne_it p3 h3) its3.toArray)
    have en : i = min (min its.toArray.size its2.toArray.size) its3.toArray.size := by
      simp only [List.size_toArray]
      rw [← rv.length, ← rv2.length, ← rv3.length]
      exact hi
    rw [en] at h1 h2 h3
    exact W.stops s (fun s1 => Inv X pins σ H s1) E ⟨hz, hTI, hTO, ⟨h1, p1⟩, ⟨h2, p2⟩, h3, p3⟩ fun h' tk hk htk => I.turnedL (t' := tk) (ch := [z, TO, i1, i2, i3]) hk fun b hb => hf b (by revert hb; simp; intro hb; rcases hb with q | q | q | q | q <;> simp [q])
  self := fun A i s Q E st h => wpAny_pyIter_zip st.1 h
def iZip3 (K : PySem.W.Frag) (ta : TA) : TI := fun σ H R => ta σ H fun vs H1 => ∃ a b c xs ys zs, vs = [.ref a, .ref b, .ref c] ∧ SqT K H1 a xs ∧ SqT K H1 b ys ∧ SqT K H1 c zs ∧ R (ItZ3 K a b c) H1
theorem pi_zip3 {X : Cx} {e e2 e3 : Expr} {ta : TA} {p pos tpos : Pos} {elts : List Expr} {kk : Nat} (hg : Gl X "zip") (hm : X.mg "zip" = none) (ha : PA X [e, e2, e3] ta)
    (hs : starEach [e, e2, e3] X.env = (false, eval e X.env) :: starEach [e2, e3] X.env := by rfl) (hpl : (backTo pos (starEach [e2, e3] X.env)).any (·.1) = false := by rfl) :
    PI X (.Tuple elts kk tpos) (.Call (.Name "zip" p) [e, e2, e3] [] pos) (iZip3 X.K ta) := by
  refine ⟨fun pins s σ H R I h => ?_⟩
  refine Call_ (ld_blt I hg hm PyProof.Rows.boot_zip (PyProof.Rows.callWith_type1 (thn (ha.run pos pins s σ H _ I h) fun us s1 ⟨vs, H1, I1, r1, q1⟩ => ?_) hs hpl))
  obtain ⟨a, b, c, xs, ys, zs, rfl, hqx, hqy, hqz, q⟩ := q1
  obtain ⟨u1, us, rfl, ra, r1⟩ : ∃ u us', us = u :: us' ∧ RelV (.ref a) u ∧ Vals [.ref b, .ref c] us' := by cases r1 with | cons h t => exact ⟨_, _, rfl, h, t⟩
  obtain ⟨u2, us, rfl, rb, r1⟩ : ∃ u us', us = u :: us' ∧ RelV (.ref b) u ∧ Vals [.ref c] us' := by cases r1 with | cons h t => exact ⟨_, _, rfl, h, t⟩
  obtain ⟨u3, rfl, rc⟩ := vals1 r1
  cases ra; cases rb; cases rc
  obtain ⟨its, rv, p1, _⟩ := I1.tuple hqx
  obtain ⟨its2, rv2, p2, _⟩ := I1.tuple hqy
  obtain ⟨its3, rv3, p3, _⟩ := I1.tuple hqz
  refine zip_begins3 (begins_tuple a its.toArray) (begins_tuple b its2.toArray) (begins_tuple c its3.toArray) p1 p2 p3 fun h' hz hTI hTO h1 h2 h3 hsz hk => wpAny_pyIter_zip hz ?_
  have I2 : Inv X pins σ H1 { s1 with heap := h' } := I1.kept (t' := s1.toks) hk
  have sep := zip_sep3 (N := s1.heap.objs.size) (fp1 := [a]) (fp2 := [b]) (fp3 := [c]) (fun d hd => by rw [List.mem_singleton.mp hd]; exact p1.lt) (fun d hd => by rw [List.mem_singleton.mp hd]; exact p2.lt) (fun d hd => by rw [List.mem_singleton.mp hd]; exact p3.lt)
  refine ⟨_, _, _, _, H1, rfl, I2, turn_zip3 sep, ⟨hz, hTI, ⟨_, _, _, hTO⟩, ⟨_, h1, rfl, rfl⟩, ⟨_, h2, rfl, rfl⟩, ⟨_, h3, rfl, rfl⟩⟩, fun d hd => ?_, q⟩
  have hle : s1.heap.objs.size ≤ d := by
    simp only [List.mem_cons, List.not_mem_nil, or_false] at hd
    rcases hd with z | z | z | z | z | z <;> rw [z] <;> first | exact Nat.le_refl _ | exact Nat.le_add_right _ _
  exact I1.fpOk hle (I1.hok.fresh hle)

/-! ### enumerate of a tuple -/
def itO (a : Addr) : Obj := { cls := .type "tuple_iterator", data := .fields #[.ref a, .int 0 0] }
def enO (it : Addr) : Obj := { cls := .type "enumerate", data := .fields #[.none, .bool false, .ref it, rawInt 0, .none, .none] }
theorem enum_newT (a : Addr) (o : Obj) (its : Array Value) (n : Nat) (hc : o.cls = .type "tuple") (hd : o.data = .seq its n) :
    Meets (Builtin.«enumerate.__new__» ⟨[.type "enumerate", .ref a], []⟩) (fun _ R s => s.heap.get? a = some o ∧ R (.ok (.ret (.ref (s.heap.push (itO a)).objs.size))) { s with heap := (s.heap.push (itO a)).push (enO s.heap.objs.size) }) :=
  .of_wp fun prog w A R s h => by
    obtain ⟨hp, g, d, tk, os⟩ := s
    obtain ⟨cls, dd, data, sls⟩ := o
    simp only at hc hd
    subst hc hd
    obtain ⟨ha, h⟩ := h
    have hsub := sub_enumerate
    have hT : Heap.IsTuple (Shared.heap ⟨hp, g, d, tk, os⟩) a its := ⟨_, ha, rfl, n, rfl⟩
    wp_walk using wpAny_loadPart' ha
    refine wpAny_stack_any fun st => wpAny_pure ?_
    split
    · rename_i c _ _ _ _ _
      cases (c == Value.type "enumerate") <;> (wp_walk using wpAny_loadPart' ha, wpAny_pyIter_tuple hT; exact ⟨_, rfl, h⟩)
    · wp_walk using wpAny_loadPart' ha, wpAny_pyIter_tuple hT
      exact ⟨_, rfl, h⟩
theorem call_enumT {prog : Program} {w : World} {A : Around} {E : Value → Shared → Prop} {s : Shared} {a : Addr} {its : Array Value} {Q : Value → Shared → Prop} (hT : IsTup s.heap a its)
    (h : ∀ h', IsEnum h' (s.heap.objs.size + 1) s.heap.objs.size 0 .none → h'.IsTupleIter s.heap.objs.size a 0 → (∀ b o, s.heap.get? b = some o → h'.get? b = some o) → Q (.ref (s.heap.objs.size + 1)) { s with heap := h' }) :
    wpAny (model prog w) A (call (.type "enumerate") [.ref a]) Q E s := by
  obtain ⟨o, ho, hc, n, hd⟩ := hT
  refine callType_new F.called_enumerate (by decide) (F.typeCall_enumerate_1 _) (F.newCall_enumerate_1 _) (fun obj => F.args_object_init_2 obj _) F.entry_enumerate_new (enum_newT a o its n hc hd) ⟨ho, ?_⟩
  have hz : (s.heap.push (itO a)).objs.size = s.heap.objs.size + 1 := Heap.size_push ..
  show _ ∧ _
  rw [hz]
  have he : ((s.heap.push (itO a)).push (enO s.heap.objs.size)).get? (s.heap.objs.size + 1) = some (enO s.heap.objs.size) := by
    rw [← hz]
    exact Heap.get?_push_size _ rfl
  exact ⟨⟨_, he, rfl⟩, h _ he ⟨itO a, Heap.get?_push_of_some _ (Heap.get?_push_size _ rfl), rfl, rfl⟩ fun b o x => Heap.get?_push_of_some _ (Heap.get?_push_of_some _ x)⟩
def ItET (K : PySem.W.Frag) (a : Addr) : It :=
  ⟨fun i H => ∃ (xs : List V) (x : V), SqT K H a xs ∧ xs[i]? = some x, fun i H v H' => ∃ T x, v = .ref T ∧ H T = none ∧ H' = upd H T (.tup [.int (i : Nat), x]) ∧ ∀ xs, SqT K H a xs → xs[i]? = some x, fun i H => ∃ xs : List V, SqT K H a xs ∧ i = xs.length⟩
theorem turn_enumT {P : Program} {w : World} {K : PySem.W.Frag} {elts : List Expr} {kk : Nat} {tpos : Pos} (a e it : Addr) :
    Turn P w K (.Tuple elts kk tpos) (ItET K a) [e, it] e (fun i h => (∃ old, IsEnum h e it (0 + (i : Int)) old) ∧ h.IsTupleIter it a i ∧ e ≠ it ∧ e ≠ a) where
  mem := by simp
  obj := fun i h st b hb => by
    obtain ⟨⟨old, he⟩, ⟨o, ho, hc, hd⟩, _⟩ := st
    have e' : b = e ∨ b = it := by simpa using hb
    rcases e' with z | z
    · rw [z]
      exact ⟨_, he, fun v q => nomatch q⟩
    · rw [z]
      exact ⟨o, ho, fun v q => by rw [hd] at q; cases q⟩
  keep := fun i h h' st k => by
    obtain ⟨⟨old, he⟩, hi, hne⟩ := st
    exact ⟨⟨old, k e (by simp) _ he⟩, hi.at fun o q => k it (by simp) o q, hne⟩
  item := by
    intro X hP hw hK hc i pins s σ H E I hf st hg
    subst hP hw hK
    obtain ⟨he, hit, hne, hea⟩ := st
    obtain ⟨xs, x, hq, hx⟩ := hg
    obtain ⟨its, rv, p, hz⟩ := I.tuple hq
    have W := GoesN.enumFrom (prog := X.prog) (w := X.w) (A := X.A) (elts := elts) (x1 := kk) (pos := tpos) 0 (Draws.tuple (A := X.A.in1) (I.ok.hd hc) it a (ne_it p hit) its.toArray) e hne (by simp [hne, hea]) (by simp)
    have lt : i < its.toArray.size := by
      have l1 := rv.length
      have m1 := (List.getElem?_eq_some_iff.mp hx).1
      simp only [List.size_toArray]
      omega
    refine thn (W.goes i s (fun v s2 => ∃ x' H', Inv X pins σ H' s2 ∧ RelV x' v ∧ (ItET X.K a).yld i H x' H' ∧ ((∃ old, IsEnum s2.heap e it (0 + ((i + 1 : Nat) : Int)) old) ∧ s2.heap.IsTupleIter it a (i + 1) ∧ e ≠ it ∧ e ≠ a) ∧ ∀ b ∈ [e, it], H' b = none) E lt ⟨he, hit, p⟩ fun v h' tk hY st' hk htk => ?_) fun r s1 h => h
    obtain ⟨T, t, u, rfl, hT, eu, hTt⟩ := hY
    obtain ⟨w1, hw1, r1⟩ := rv.get hx
    have q1 : u = w1 := Option.some.inj (eu.symm.trans (by simpa using hw1))
    subst q1
    have e0 : (0 : Int) + (i : Int) = ((i : Nat) : Int) := by omega
    rw [e0] at hTt
    have new : ObjOk X.prog X.w (upd H T (.tup [.int (i : Nat), x])) h' T (.tup [.int (i : Nat), x]) := ⟨by show 2 ≤ sizeLine; decide, [.int i t, u], .cons ⟨t, rfl⟩ (.cons r1 .nil), hTt⟩
    have I1 := I.turnedNew (t' := tk) (ch := [e, it]) hk hf hT new
    obtain ⟨g1, g2, _⟩ := st'
    refine ⟨.ref T, _, I1, rfl, ⟨T, x, rfl, I.hok.fresh hT, rfl, fun l hl => by rw [I.tuple_inj hl hq]; exact hx⟩, ⟨g1, g2, hne, hea⟩, fun d hd => ?_⟩
    have hlt : d < s.heap.objs.size := by
      have e' : d = e ∨ d = it := by simpa using hd
      obtain ⟨_, he⟩ := he
      rcases e' with q | q
      · rw [q]
        exact Heap.lt_size he
      · obtain ⟨_, q1, _⟩ := hit
        rw [q]
        exact Heap.lt_size q1
    rw [upd_ne (Nat.ne_of_lt (Nat.lt_of_lt_of_le hlt hT))]
    exact (hf d hd).1
  done := by
    intro X hP hw hK hc i pins s σ H E I hf st hg
    subst hP hw hK
    obtain ⟨he, hit, hne, hea⟩ := st
    obtain ⟨xs, hq, hi⟩ := hg
    obtain ⟨its, rv, p, _⟩ := I.tuple hq
    have W := GoesN.enumFrom (prog := X.prog) (w := X.w) (A := X.A) (elts := elts) (x1 := kk) (pos := tpos) 0 (Draws.tuple (A := X.A.in1) (I.ok.hd hc) it a (ne_it p hit) its.toArray) e hne (by simp [hne, hea]) (by simp)
    have en : i = its.toArray.size := by
      rw [List.size_toArray, ← rv.length]
      exact hi
    rw [en] at he hit
    exact W.stops s (fun s1 => Inv X pins σ H s1) E ⟨he, hit, p⟩ fun h' tk hk htk => I.turnedL (t' := tk) (ch := [e, it]) hk hf
  self := fun A i s Q E st h => let ⟨⟨_, he⟩, _⟩ := st; wpAny_pyIter_enum he h
def iEnumT (K : PySem.W.Frag) (ta : TA) : TI := fun σ H R => ta σ H fun vs H1 => ∃ a xs, vs = [.ref a] ∧ SqT K H1 a xs ∧ R (ItET K a) H1
theorem pi_enumT {X : Cx} {e : Expr} {ta : TA} {p pos tpos : Pos} {elts : List Expr} {kk : Nat} (hg : Gl X "enumerate") (hm : X.mg "enumerate" = none) (ha : PA X [e] ta) (hs : starEach [e] X.env = [(false, eval e X.env)] := by rfl) :
    PI X (.Tuple elts kk tpos) (.Call (.Name "enumerate" p) [e] [] pos) (iEnumT X.K ta) := by
  refine ⟨fun pins s σ H R I h => ?_⟩
  refine Call_ (ld_blt I hg hm boot_enumerate (PyProof.Rows.callWith_type1 (thn (ha.run pos pins s σ H _ I h) fun us s1 ⟨vs, H1, I1, r1, q1⟩ => ?_) hs rfl))
  obtain ⟨a, xs, rfl, hq, q⟩ := q1
  obtain ⟨u, rfl, ra⟩ := vals1 r1
  cases ra
  obtain ⟨its, rv, p', hz⟩ := I1.tuple hq
  refine call_enumT p' fun h' he hit hk => wpAny_pyIter_enum he ?_
  have I2 : Inv X pins σ H1 { s1 with heap := h' } := I1.kept (t' := s1.toks) hk
  refine ⟨_, _, _, _, H1, rfl, I2, turn_enumT a (s1.heap.objs.size + 1) s1.heap.objs.size, ⟨⟨.none, he⟩, hit, Nat.succ_ne_self _, Nat.ne_of_gt (Nat.lt_succ_of_lt p'.lt)⟩, fun d hd => ?_, q⟩
  have hle : s1.heap.objs.size ≤ d := by
    simp only [List.mem_cons, List.not_mem_nil, or_false] at hd
    rcases hd with z | z <;> rw [z] <;> first | exact Nat.le_refl _ | exact Nat.le_add_right _ _
  exact I1.fpOk hle (I1.hok.fresh hle)
end Ed

set_option maxHeartbeats 1000000
/-! EdWk: walks told by a plain list of what they yield; comprehensions and loops over them; small built-ins. -/
namespace Ed
open PySem L2
universe u
/-- the walk yields the things of l, in order, as Y tells -/
def WkL {α : Type u} (S : Sys) (J : It) (l : List α) (Y : α → V → Hp → Prop) (H : Hp) : Prop := Wk S J l.length (fun i x H' => ∃ z, l[i]? = some z ∧ Y z x H') H
section
variable {S : Sys} {H H' H1 H2 : Hp} {σ : St} {te ta tb tc tl : TE} {tt : TT} {tr : TA} {o p q : Ob} {os ps : List Ob} {b c : Bool} {v x y z : V} {K : PySem.W.Frag}
variable {α β γ : Type} {l : List α} {Y : α → V → Hp → Prop} {wi : TI}

theorem filter_range {l : List α} {keep : α → Bool} {f : α → Ob} : ∀ (n : Nat), n ≤ l.length → ((List.range n).filter fun i => (l[i]?.map keep).getD false).map (fun i => (l[i]?.map f).getD (.val .non)) = ((l.take n).filter keep).map f := by
  intro n
  induction n with
  | zero => intro _; rfl
  | succ n ih =>
    intro h
    have hn : n < l.length := h
    rw [List.range_succ, List.filter_append, List.map_append, ih (Nat.le_of_lt hn), List.take_add_one, List.filter_append, List.map_append]
    congr 1
    rw [List.getElem?_eq_getElem hn]
    by_cases hk : keep l[n] = true
    · simp [hn, hk]
    · simp [hn, hk]
/-- a comprehension over a walk -/
theorem gl_lcL {g : TG} {vs : List Nat} {keep : α → Bool} {f : α → Ob} (hw : GvI S wi σ H fun J H1 => WkL S J l Y H1) (hn : l.length ≤ 100000)
    (turn : ∀ (i : Nat) z x H1, l[i]? = some z → S.T H H1 → Y z x H1 → ∃ σ2, (∀ Q : St → Hp → Prop, Q σ2 H1 → g x (wipe σ vs) H1 Q) ∧ wipe σ2 vs = wipe σ vs ∧ GvT S tt σ2 H1 (keep z) ∧ (keep z = true → Gv S te σ2 H1 (f z))) :
    GvL S (tLc wi g tt te vs) σ H ((l.filter keep).map f) := by
  have h := gl_lc (S := S) (tt := tt) (te := te) (g := g) (vs := vs) (keep := fun i => (l[i]?.map keep).getD false) (f := fun i => (l[i]?.map f).getD (.val .non)) hw hn fun i x H1 hi a hy => by
    obtain ⟨z, hz, hy⟩ := hy
    obtain ⟨σ2, h1, h2, h3, h4⟩ := turn i z x H1 hz a hy
    exact ⟨σ2, h1, h2, by rw [hz]; exact h3, by rw [hz]; exact h4⟩
  rw [filter_range l.length (Nat.le_refl _), List.take_length] at h
  exact h
theorem gt_yes : GvT S tYes σ H true := fun H1 a Q k => k H1 a.fin
/-- to one name -/
theorem gl_lc1 {vs : List Nat} {i : Nat} {keep : α → Bool} {f : α → Ob} (hw : GvI S wi σ H fun J H1 => WkL S J l Y H1) (hn : l.length ≤ 100000)
    (hv : ∀ x : V, wipe ((wipe σ vs).set i (some x)) vs = wipe σ vs)
    (turn : ∀ (j : Nat) z x H1, l[j]? = some z → S.T H H1 → Y z x H1 → GvT S tt ((wipe σ vs).set i (some x)) H1 (keep z) ∧ (keep z = true → Gv S te ((wipe σ vs).set i (some x)) H1 (f z))) :
    GvL S (tLc wi (gName i) tt te vs) σ H ((l.filter keep).map f) :=
  gl_lcL hw hn fun j z x H1 hz a hy => ⟨_, fun Q q => q, hv x, (turn j z x H1 hz a hy).1, (turn j z x H1 hz a hy).2⟩
/-- to one name, no test -/
theorem gl_lc1y {vs : List Nat} {i : Nat} {f : α → Ob} (hw : GvI S wi σ H fun J H1 => WkL S J l Y H1) (hn : l.length ≤ 100000)
    (hv : ∀ x : V, wipe ((wipe σ vs).set i (some x)) vs = wipe σ vs)
    (turn : ∀ (j : Nat) z x H1, l[j]? = some z → S.T H H1 → Y z x H1 → Gv S te ((wipe σ vs).set i (some x)) H1 (f z)) :
    GvL S (tLc wi (gName i) tYes te vs) σ H (l.map f) := by
  have h := gl_lc1 (tt := tYes) (te := te) (keep := fun _ => true) (f := f) hw hn hv fun j z x H1 hz a hy => ⟨gt_yes, fun _ => turn j z x H1 hz a hy⟩
  rwa [List.filter_eq_self.mpr fun _ _ => rfl] at h
/-- what a pair is told to be -/
def Y2 (Ya : α → V → Hp → Prop) (Yb : β → V → Hp → Prop) : α × β → V → Hp → Prop := fun z v H => ∃ T a b, v = .ref T ∧ H T = some (.tup [a, b]) ∧ Ya z.1 a H ∧ Yb z.2 b H
def Y3 (Ya : α → V → Hp → Prop) (Yb : β → V → Hp → Prop) (Yc : γ → V → Hp → Prop) : α × β × γ → V → Hp → Prop := fun z v H => ∃ T a b c, v = .ref T ∧ H T = some (.tup [a, b, c]) ∧ Ya z.1 a H ∧ Yb z.2.1 b H ∧ Yc z.2.2 c H
abbrev g2 (K : PySem.W.Frag) (i j : Nat) : TG := gTup K 2 (gCons (gName i) (gCons (gName j) gNil))
abbrev g3 (K : PySem.W.Frag) (i j k : Nat) : TG := gTup K 3 (gCons (gName i) (gCons (gName j) (gCons (gName k) gNil)))
theorem g2_ok {T : Addr} {a b : V} {i j : Nat} (h : H T = some (.tup [a, b])) {Q : St → Hp → Prop} (q : Q ((σ.set i (some a)).set j (some b)) H) : g2 K i j (.ref T) σ H Q :=
  ⟨T, _, rfl, SqT.of h, rfl, a, [b], rfl, b, [], rfl, rfl, q⟩
theorem g3_ok {T : Addr} {a b c : V} {i j k : Nat} (h : H T = some (.tup [a, b, c])) {Q : St → Hp → Prop} (q : Q (((σ.set i (some a)).set j (some b)).set k (some c)) H) : g3 K i j k (.ref T) σ H Q :=
  ⟨T, _, rfl, SqT.of h, rfl, a, [b, c], rfl, b, [c], rfl, c, [], rfl, rfl, q⟩
theorem gl_lc2 {vs : List Nat} {i j : Nat} {lp : List (α × β)} {Ya : α → V → Hp → Prop} {Yb : β → V → Hp → Prop} {keep : α × β → Bool} {f : α × β → Ob} (hw : GvI S wi σ H fun J H1 => WkL S J lp (Y2 Ya Yb) H1) (hn : lp.length ≤ 100000)
    (hv : ∀ x y : V, wipe (((wipe σ vs).set i (some x)).set j (some y)) vs = wipe σ vs)
    (turn : ∀ (m : Nat) z x y H1, lp[m]? = some z → S.T H H1 → Ya z.1 x H1 → Yb z.2 y H1 → GvT S tt (((wipe σ vs).set i (some x)).set j (some y)) H1 (keep z) ∧ (keep z = true → Gv S te (((wipe σ vs).set i (some x)).set j (some y)) H1 (f z))) :
    GvL S (tLc wi (g2 K i j) tt te vs) σ H ((lp.filter keep).map f) :=
  gl_lcL hw hn fun m z x H1 hz a hy => by
    obtain ⟨T, u, w, rfl, hT, h1, h2⟩ := hy
    exact ⟨_, fun Q q => g2_ok hT q, hv u w, (turn m z u w H1 hz a h1 h2).1, (turn m z u w H1 hz a h1 h2).2⟩
theorem gl_lc2y {vs : List Nat} {i j : Nat} {lp : List (α × β)} {Ya : α → V → Hp → Prop} {Yb : β → V → Hp → Prop} {f : α × β → Ob} (hw : GvI S wi σ H fun J H1 => WkL S J lp (Y2 Ya Yb) H1) (hn : lp.length ≤ 100000)
    (hv : ∀ x y : V, wipe (((wipe σ vs).set i (some x)).set j (some y)) vs = wipe σ vs)
    (turn : ∀ (m : Nat) z x y H1, lp[m]? = some z → S.T H H1 → Ya z.1 x H1 → Yb z.2 y H1 → Gv S te (((wipe σ vs).set i (some x)).set j (some y)) H1 (f z)) :
    GvL S (tLc wi (g2 K i j) tYes te vs) σ H (lp.map f) := by
  have h := gl_lc2 (K := K) (tt := tYes) (te := te) (keep := fun _ => true) (f := f) hw hn hv fun m z x y H1 hz a h1 h2 => ⟨gt_yes, fun _ => turn m z x y H1 hz a h1 h2⟩
  rwa [List.filter_eq_self.mpr fun _ _ => rfl] at h
theorem gl_lc3y {vs : List Nat} {i j k : Nat} {lp : List (α × β × γ)} {Ya : α → V → Hp → Prop} {Yb : β → V → Hp → Prop} {Yc : γ → V → Hp → Prop} {f : α × β × γ → Ob} (hw : GvI S wi σ H fun J H1 => WkL S J lp (Y3 Ya Yb Yc) H1) (hn : lp.length ≤ 100000)
    (hv : ∀ x y z : V, wipe ((((wipe σ vs).set i (some x)).set j (some y)).set k (some z)) vs = wipe σ vs)
    (turn : ∀ (m : Nat) z x y w H1, lp[m]? = some z → S.T H H1 → Ya z.1 x H1 → Yb z.2.1 y H1 → Yc z.2.2 w H1 → Gv S te ((((wipe σ vs).set i (some x)).set j (some y)).set k (some w)) H1 (f z)) :
    GvL S (tLc wi (g3 K i j k) tYes te vs) σ H (lp.map f) := by
  have h := gl_lcL (g := g3 K i j k) (tt := tYes) (te := te) (keep := fun _ => true) (f := f) hw hn fun m z x H1 hz a hy => by
    obtain ⟨T, u, w, r, rfl, hT, h1, h2, h3⟩ := hy
    exact ⟨_, fun Q q => g3_ok hT q, hv u w r, gt_yes, fun _ => turn m z u w r H1 hz a h1 h2 h3⟩
  rwa [List.filter_eq_self.mpr fun _ _ => rfl] at h

/-! ### the walks -/
def YD (enc : α → PyData) : α → V → Hp → Prop := fun z v H => Rep H v (enc z)
theorem sqt_to {K : PySem.W.Frag} {a : Addr} {xs : List V} (h : SqT K H a xs) (t : Tups H H') : SqT K H' a xs := by
  rcases h with (h | ⟨o, h⟩) | h
  · exact .inl (.inl (t.t _ _ h))
  · exact .inl (.inr ⟨o, t.f _ _ _ h⟩)
  · exact .inr h
theorem gi_tup {enc : α → PyData} {dd : PyData} (h : Gv S tl σ H (.dat dd)) (w : Row dd (l.map enc) := by exact .inl rfl) : GvI S (iTup K tl) σ H fun J H1 => WkL S J l (YD enc) H1 := fun H1 a R k => by
  refine h H1 a _ fun v H2 a2 hv => ?_
  obtain ⟨t, xs, rfl, ht, hr, _⟩ := Rep.row (K := K) w hv
  refine ⟨t, rfl, ⟨xs, ht⟩, k _ H2 a2 ?_⟩
  have hl : xs.length = l.length := by rw [hr.length, List.length_map]
  refine ⟨fun i H' hi a3 => ?_, fun H' a3 => ⟨xs, sqt_to ht a3.tups, by omega⟩, fun i x H' H'' hi a3 y => ?_⟩
  · have hx : i < xs.length := by omega
    exact ⟨xs, xs[i], sqt_to ht a3.tups, List.getElem?_eq_getElem hx⟩
  · obtain ⟨rfl, y⟩ := y
    have hx := y xs (sqt_to ht a3.tups)
    refine ⟨a3.fin, Same.refl _, l[i], List.getElem?_eq_getElem hi, ?_⟩
    exact (hr.mono a3.tups).get hx (by rw [List.getElem?_map, List.getElem?_eq_getElem hi]; rfl)
/-- the items of a list that the walk leaves as it is -/
theorem gi_list {a : Addr} {xs : List V} (h : Gv S tl σ H (.val (.ref a))) (ha : ∀ H1, S.T H H1 → H1 a = some (.lst xs)) (hl : xs.length = l.length) (hY : ∀ (i : Nat) x z H1, S.T H H1 → xs[i]? = some x → l[i]? = some z → Y z x H1) :
    GvI S (iList K tl) σ H fun J H1 => WkL S J l Y H1 := fun H1 b R k => by
  refine h H1 b _ fun v H2 b2 hv => ?_
  cases hv
  have b3 := b.trans b2
  refine ⟨a, rfl, ⟨xs, SqL.of (ha H2 b3)⟩, k _ H2 b2 ?_⟩
  refine ⟨fun i H' hi a3 => ?_, fun H' a3 => ⟨xs, SqL.of (ha H' (b3.trans a3)), by omega⟩, fun i x H' H'' hi a3 y => ?_⟩
  · have hx : i < xs.length := by omega
    exact ⟨xs, xs[i], SqL.of (ha H' (b3.trans a3)), List.getElem?_eq_getElem hx⟩
  · obtain ⟨rfl, y⟩ := y
    have hx := y xs (SqL.of (ha H'' (b3.trans a3)))
    exact ⟨a3.fin, Same.refl _, l[i], List.getElem?_eq_getElem hi, hY i x _ _ (b3.trans a3) hx (List.getElem?_eq_getElem hi)⟩
/-- a new list, walked at once -/
theorem gi_listN {f : α → Ob} (h : GvL S tl σ H (l.map f)) : GvI S (iList K tl) σ H fun J H1 => WkL S J l (fun z v H => Is H v (f z)) H1 := fun H1 b R k => by
  refine h H1 b _ fun p xs H2 hp b2 he hxs => ?_
  have nM := S.notM b2.j hp
  have hl : xs.length = l.length := by rw [hxs.length, List.length_map]
  refine ⟨p, rfl, ⟨xs, SqL.of he⟩, k _ H2 b2 ?_⟩
  have at' : ∀ H', S.T H2 H' → H' p = some (.lst xs) := fun H' a3 => a3.k _ _ nM he
  refine ⟨fun i H' hi a3 => ?_, fun H' a3 => ⟨xs, SqL.of (at' H' a3), by omega⟩, fun i x H' H'' hi a3 y => ?_⟩
  · have hx : i < xs.length := by omega
    exact ⟨xs, xs[i], SqL.of (at' H' a3), List.getElem?_eq_getElem hx⟩
  · obtain ⟨rfl, y⟩ := y
    have hx := y xs (SqL.of (at' H'' a3))
    exact ⟨a3.fin, Same.refl _, l[i], List.getElem?_eq_getElem hi, (hxs.to a3).get hx (by rw [List.getElem?_map, List.getElem?_eq_getElem hi]; rfl)⟩
def YI (lo : Int) : Nat → V → Hp → Prop := fun i v _ => v = .int (lo + (i : Int))
theorem gi_rng1 {n : Nat} (h : GvA S tr σ H [.val (.int (n : Int))]) (hn : n ≤ 100000) : GvI S (iRng1 tr) σ H fun J H1 => WkL S J (List.range n) (YI 0) H1 := fun H1 a R k => by
  refine h H1 a _ fun vs H2 a2 hvs => ?_
  obtain ⟨rfl⟩ : vs = [.int (n : Int)] := by
    cases hvs with
    | cons h t => cases t; rw [show _ = V.int n from h]
  refine ⟨n, rfl, by omega, by omega, k _ H2 a2 ?_⟩
  rw [Int.toNat_natCast]
  refine ⟨fun i H' hi a3 => by show i < n; simpa using hi, fun H' a3 => by show n ≤ _; simp, fun i x H' H'' hi a3 y => ?_⟩
  obtain ⟨rfl, rfl⟩ := y
  exact ⟨a3.fin, Same.refl _, i, by rw [List.length_range] at hi; rw [List.getElem?_range hi], rfl⟩
theorem gi_rng2 {lo hi' : Int} (h : GvA S tr σ H [.val (.int lo), .val (.int hi')]) (h1 : -100000 ≤ lo ∧ lo ≤ 100000) (h2 : -100000 ≤ hi' ∧ hi' ≤ 100000) : GvI S (iRng2 tr) σ H fun J H1 => WkL S J (List.range (hi' - lo).toNat) (YI lo) H1 := fun H1 a R k => by
  refine h H1 a _ fun vs H2 a2 hvs => ?_
  obtain ⟨rfl⟩ : vs = [.int lo, .int hi'] := by
    cases hvs with
    | cons h t =>
      cases t with
      | cons h2 t => cases t; rw [show _ = V.int lo from h, show _ = V.int hi' from h2]
  refine ⟨lo, hi', rfl, ⟨by omega, by omega, by omega, by omega⟩, k _ H2 a2 ?_⟩
  refine ⟨fun i H' hi a3 => by show i < (hi' - lo).toNat; rwa [List.length_range] at hi, fun H' a3 => by show _ ≤ _; simp, fun i x H' H'' hi a3 y => ?_⟩
  obtain ⟨rfl, rfl⟩ := y
  exact ⟨a3.fin, Same.refl _, i, by rw [List.length_range] at hi; rw [List.getElem?_range hi], rfl⟩
/-- the signs of a text -/
def YC : Nat → V → Hp → Prop := fun c v _ => v = .str ⟨#[c]⟩
theorem gi_str {x : Str} (h : Gv S te σ H (.val (.str x))) : GvI S (iStr te) σ H fun J H1 => WkL S J x.cps.toList YC H1 := fun H1 a R k => by
  refine h H1 a _ fun v H2 a2 hv => ?_
  refine ⟨x, hv, k _ H2 a2 ?_⟩
  refine ⟨fun i H' hi a3 => by show i < x.cps.size; simpa using hi, fun H' a3 => by show x.cps.size ≤ _; simp, fun i v H' H'' hi a3 y => ?_⟩
  obtain ⟨rfl, c, hc, rfl⟩ := y
  exact ⟨a3.fin, Same.refl _, c, by simpa using hc, rfl⟩
theorem zip_get {l : List α} {m : List β} {i : Nat} {x : α} {y : β} (h1 : l[i]? = some x) (h2 : m[i]? = some y) : (l.zip m)[i]? = some (x, y) := by
  rw [List.getElem?_zip_eq_some]; exact ⟨h1, h2⟩
theorem gi_zip2 {m : List β} {ea : α → PyData} {eb : β → PyData} (h : GvA S tr σ H [.dat (.tuple (l.map ea)), .dat (.tuple (m.map eb))]) (hlm : l.length = m.length) :
    GvI S (RZ.iZipA K tr) σ H fun J H1 => WkL S J (l.zip m) (Y2 (YD ea) (YD eb)) H1 := fun H1 a R k => by
  refine h H1 a _ fun vs H2 a2 hvs => ?_
  obtain ⟨v1, v2, rfl, h1, h2⟩ : ∃ v1 v2, vs = [v1, v2] ∧ Rep H2 v1 (.tuple (l.map ea)) ∧ Rep H2 v2 (.tuple (m.map eb)) := by
    cases hvs with
    | cons h t => cases t with | cons h2 t => cases t; exact ⟨_, _, rfl, h, h2⟩
  obtain ⟨t1, xs, rfl, ht1, hr1⟩ := Rep.inv h1
  obtain ⟨t2, ys, rfl, ht2, hr2⟩ := Rep.inv h2
  refine ⟨t1, t2, xs, ys, rfl, .inr ⟨SqT.of ht1, SqT.of ht2, k _ H2 a2 ?_⟩⟩
  have l1 : xs.length = l.length := by rw [hr1.length, List.length_map]
  have l2 : ys.length = m.length := by rw [hr2.length, List.length_map]
  have lz : (l.zip m).length = l.length := by rw [List.length_zip]; omega
  refine ⟨fun i H' hi a3 => ?_, fun H' a3 => ⟨xs, ys, SqT.of (a3.tups.t _ _ ht1), SqT.of (a3.tups.t _ _ ht2), .inl (by omega)⟩, fun i x H' H'' hi a3 y => ?_⟩
  · exact ⟨xs, ys, _, _, SqT.of (a3.tups.t _ _ ht1), SqT.of (a3.tups.t _ _ ht2), List.getElem?_eq_getElem (by omega), List.getElem?_eq_getElem (by omega)⟩
  · obtain ⟨T, x1, x2, rfl, hT, rfl, q1, q2⟩ := y
    have hx := q1 xs (SqT.of (a3.tups.t _ _ ht1))
    have hy := q2 ys (SqT.of (a3.tups.t _ _ ht2))
    have n := Sys.T.new (S := S) (o := .tup [x1, x2]) a3.j' hT
    have e1 : l[i]? = some (l[i]'(by omega)) := List.getElem?_eq_getElem _
    have e2 : m[i]? = some (m[i]'(by omega)) := List.getElem?_eq_getElem _
    have t := (a3.trans n).tups
    exact ⟨n, same_upd hT, _, zip_get e1 e2, T, x1, x2, rfl, upd_same, (hr1.mono t).get hx (by rw [List.getElem?_map, e1]; rfl), (hr2.mono t).get hy (by rw [List.getElem?_map, e2]; rfl)⟩
theorem gi_zip3 {m : List β} {n : List γ} {ea : α → PyData} {eb : β → PyData} {ec : γ → PyData} (h : GvA S tr σ H [.dat (.tuple (l.map ea)), .dat (.tuple (m.map eb)), .dat (.tuple (n.map ec))]) (hlm : l.length = m.length) (hln : l.length = n.length) :
    GvI S (iZip3 K tr) σ H fun J H1 => WkL S J (l.zip (m.zip n)) (Y3 (YD ea) (YD eb) (YD ec)) H1 := fun H1 a R k => by
  refine h H1 a _ fun vs H2 a2 hvs => ?_
  obtain ⟨v1, v2, v3, rfl, h1, h2, h3⟩ : ∃ v1 v2 v3, vs = [v1, v2, v3] ∧ Rep H2 v1 (.tuple (l.map ea)) ∧ Rep H2 v2 (.tuple (m.map eb)) ∧ Rep H2 v3 (.tuple (n.map ec)) := by
    cases hvs with
    | cons h t => cases t with | cons h2 t => cases t with | cons h3 t => cases t; exact ⟨_, _, _, rfl, h, h2, h3⟩
  obtain ⟨t1, xs, rfl, ht1, hr1⟩ := Rep.inv h1
  obtain ⟨t2, ys, rfl, ht2, hr2⟩ := Rep.inv h2
  obtain ⟨t3, zs, rfl, ht3, hr3⟩ := Rep.inv h3
  refine ⟨t1, t2, t3, xs, ys, zs, rfl, SqT.of ht1, SqT.of ht2, SqT.of ht3, k _ H2 a2 ?_⟩
  have l1 : xs.length = l.length := by rw [hr1.length, List.length_map]
  have l2 : ys.length = m.length := by rw [hr2.length, List.length_map]
  have l3 : zs.length = n.length := by rw [hr3.length, List.length_map]
  have lz : (l.zip (m.zip n)).length = l.length := by rw [List.length_zip, List.length_zip]; omega
  refine ⟨fun i H' hi a3 => ?_, fun H' a3 => ⟨xs, ys, zs, SqT.of (a3.tups.t _ _ ht1), SqT.of (a3.tups.t _ _ ht2), SqT.of (a3.tups.t _ _ ht3), by omega⟩, fun i x H' H'' hi a3 y => ?_⟩
  · exact ⟨xs, ys, zs, _, _, _, SqT.of (a3.tups.t _ _ ht1), SqT.of (a3.tups.t _ _ ht2), SqT.of (a3.tups.t _ _ ht3), List.getElem?_eq_getElem (by omega), List.getElem?_eq_getElem (by omega), List.getElem?_eq_getElem (by omega)⟩
  · obtain ⟨T, x1, x2, x3, rfl, hT, rfl, q1, q2, q3⟩ := y
    have hx := q1 xs (SqT.of (a3.tups.t _ _ ht1))
    have hy := q2 ys (SqT.of (a3.tups.t _ _ ht2))
    have hz := q3 zs (SqT.of (a3.tups.t _ _ ht3))
    have nn := Sys.T.new (S := S) (o := .tup [x1, x2, x3]) a3.j' hT
    have e1 : l[i]? = some (l[i]'(by omega)) := List.getElem?_eq_getElem _
    have e2 : m[i]? = some (m[i]'(by omega)) := List.getElem?_eq_getElem _
    have e3 : n[i]? = some (n[i]'(by omega)) := List.getElem?_eq_getElem _
    have t := (a3.trans nn).tups
    exact ⟨nn, same_upd hT, _, zip_get e1 (zip_get e2 e3), T, x1, x2, x3, rfl, upd_same, (hr1.mono t).get hx (by rw [List.getElem?_map, e1]; rfl), (hr2.mono t).get hy (by rw [List.getElem?_map, e2]; rfl), (hr3.mono t).get hz (by rw [List.getElem?_map, e3]; rfl)⟩
def YN : Nat → V → Hp → Prop := fun i v _ => v = .int (i : Int)
theorem gi_enumT {ea : α → PyData} {dd : PyData} (h : GvA S tr σ H [.dat dd]) (w : Row dd (l.map ea) := by exact .inl rfl) : GvI S (iEnumT K tr) σ H fun J H1 => WkL S J ((List.range l.length).zip l) (Y2 YN (YD ea)) H1 := fun H1 a R k => by
  refine h H1 a _ fun vs H2 a2 hvs => ?_
  obtain ⟨v1, rfl, h1⟩ : ∃ v1, vs = [v1] ∧ Rep H2 v1 dd := by
    cases hvs with
    | cons h t => cases t; exact ⟨_, rfl, h⟩
  obtain ⟨t1, xs, rfl, ht1, hr1, _⟩ := Rep.row (K := K) w h1
  refine ⟨t1, xs, rfl, ht1, k _ H2 a2 ?_⟩
  have l1 : xs.length = l.length := by rw [hr1.length, List.length_map]
  have lz : ((List.range l.length).zip l).length = l.length := by rw [List.length_zip, List.length_range]; omega
  refine ⟨fun i H' hi a3 => ?_, fun H' a3 => ⟨xs, sqt_to ht1 a3.tups, by omega⟩, fun i x H' H'' hi a3 y => ?_⟩
  · exact ⟨xs, _, sqt_to ht1 a3.tups, List.getElem?_eq_getElem (by omega)⟩
  · obtain ⟨T, x1, rfl, hT, rfl, q1⟩ := y
    have hx := q1 xs (sqt_to ht1 a3.tups)
    have nn := Sys.T.new (S := S) (o := .tup [.int (i : Nat), x1]) a3.j' hT
    have e1 : l[i]? = some (l[i]'(by omega)) := List.getElem?_eq_getElem _
    have e0 : (List.range l.length)[i]? = some i := List.getElem?_range (by omega)
    have t := (a3.trans nn).tups
    exact ⟨nn, same_upd hT, _, zip_get e0 e1, T, _, x1, rfl, upd_same, rfl, (hr1.mono t).get hx (by rw [List.getElem?_map, e1]; rfl)⟩

/-! ### a loop -/
theorem gs_for {g : TG} {tu : TS} {D : Ends} (hw : GvI S wi σ H fun J H1 => WkL S J l Y H1) (j : S.J H) (Pv : Hp → Nat → St → Hp → Prop) (h0 : ∀ H1, S.T H H1 → Pv H1 0 σ H1) (hT : ∀ H1 i σ' H', S.T H H1 → Pv H1 i σ' H' → S.T H1 H')
    (turn : ∀ H1 (i : Nat) z x σ' H' H'', S.T H H1 → l[i]? = some z → Pv H1 i σ' H' → S.T H' H'' → Same H' H'' → Y z x H'' → g x σ' H'' fun σ2 H2 => tu { D with nx := Pv H1 (i + 1), ct := Pv H1 (i + 1), bk := D.nx } σ2 H2)
    (done : ∀ H1 σ' H', S.T H H1 → Pv H1 l.length σ' H' → D.nx σ' H') : tFor wi g tu D σ H := by
  refine hw H (.refl j) _ fun J H2 a2 w => ?_
  refine ⟨fun i m σ' H' => m = l.length - i ∧ i ≤ l.length ∧ Pv H2 i σ' H', ⟨l.length, rfl, Nat.zero_le _, h0 H2 a2⟩, ?_⟩
  rintro i m σ' H3 ⟨rfl, hi, hp⟩
  have a3 := hT H2 i σ' H3 a2 hp
  by_cases hlt : i < l.length
  · refine .inr ⟨w.go i H3 hlt a3, fun σ'' H' => Pv H2 (i + 1) σ'' H', fun σ'' H' p => ⟨l.length - (i + 1), by omega, rfl, hlt, p⟩, fun x H4 yy => ?_⟩
    obtain ⟨a4, s4, z, hz, hy⟩ := w.yld i x H3 H4 hlt a3 yy
    exact turn H2 i z x σ' H3 H4 a2 hz hp a4 s4 hy
  · have e : i = l.length := by omega
    subst e
    exact .inl ⟨w.stop H3 a3, done H2 σ' H3 a2 hp⟩
end
end Ed

set_option maxHeartbeats 1000000
/-! EdOps: plain data (none, ints, texts, tuples): == is equality; in, not in, index; sorted; the small built-ins over data. -/
namespace Ed
open PySem PySem.Spec PyProof.Rows L2

/-! ### plain data -/
def pl : Nat → PyData → Bool
  | _, .none => true
  | _, .int _ => true
  | _, .str s => PyData.strOk s
  | n + 1, .tuple l => l.all (pl n)
  | _, _ => false
theorem pl_mono : ∀ {n : Nat} {d : PyData}, pl n d = true → pl (n + 1) d = true
  | _, .none, _ => by simp [pl]
  | _, .int _, _ => by simp [pl]
  | _, .str s, h => by simpa [pl] using h
  | n + 1, .tuple l, h => by
    simp only [pl, List.all_eq_true] at h ⊢
    exact fun x hx => pl_mono (h x hx)
  | 0, .tuple l, h => by simp [pl] at h
  | _, .bool _, h => by simp [pl] at h
  | _, .list _, h => by simp [pl] at h
  | _, .dict _, h => by simp [pl] at h
theorem pl_le {n m : Nat} {d : PyData} (h : pl n d = true) (hm : n ≤ m) : pl m d = true := by
  induction hm with
  | refl => exact h
  | step _ ih => exact pl_mono ih
theorem layAll {l : List PyData} (h : ∀ x ∈ l, x.canLay0 = true) : PyData.canLayAll0 l = true := by
  induction l with
  | nil => simp [PyData.canLayAll0]
  | cons x r ih => simp [PyData.canLayAll0, h x (by simp), ih fun y hy => h y (by simp [hy])]
theorem depthAll_le {l : List PyData} {n : Nat} (h : ∀ x ∈ l, x.depth ≤ n) : PyData.depthAll l ≤ n := by
  induction l with
  | nil => simp [PyData.depthAll]
  | cons x r ih => simp only [PyData.depthAll]; exact Nat.max_le.mpr ⟨h x (by simp), ih fun y hy => h y (by simp [hy])⟩
theorem pl_lay : ∀ {n : Nat} {d : PyData}, pl n d = true → d.canLay0 = true ∧ d.depth ≤ n
  | _, .none, _ => by simp [PyData.canLay0, PyData.depth]
  | _, .int _, _ => by simp [PyData.canLay0, PyData.depth]
  | _, .str s, h => by
    simp only [pl] at h
    simp [PyData.canLay0, PyData.depth, h]
  | n + 1, .tuple l, h => by
    simp only [pl, List.all_eq_true] at h
    simp only [PyData.canLay0, PyData.depth]
    exact ⟨layAll fun x hx => (pl_lay (h x hx)).1, Nat.succ_le_succ (depthAll_le fun x hx => (pl_lay (h x hx)).2)⟩
  | 0, .tuple l, h => by simp [pl] at h
  | _, .bool _, h => by simp [pl] at h
  | _, .list _, h => by simp [pl] at h
  | _, .dict _, h => by simp [pl] at h
theorem pl_noLs {l : List PyData} (h : ∀ x ∈ l, noL x = true) : noLs l = true := by
  induction l with
  | nil => simp [noLs]
  | cons x r ih => simp only [noLs, Bool.and_eq_true]; exact ⟨h x (by simp), ih fun y hy => h y (by simp [hy])⟩
theorem pl_noL : ∀ {n : Nat} {d : PyData}, pl n d = true → noL d = true
  | _, .none, _ => by simp [noL]
  | _, .int _, _ => by simp [noL]
  | _, .str s, h => by simp [noL]
  | n + 1, .tuple l, h => by
    simp only [pl, List.all_eq_true] at h
    simp only [noL]
    exact pl_noLs fun x hx => pl_noL (h x hx)
  | 0, .tuple l, h => by simp [pl] at h
  | _, .bool _, h => by simp [noL]
  | _, .list _, h => by simp [pl] at h
  | _, .dict _, h => by simp [noL]
theorem pl_shaped {n : Nat} {d : PyData} (h : pl n d = true) (hn : n ≤ 64) : SeqAt.shaped d = true := by
  obtain ⟨h1, h2⟩ := pl_lay h
  show (d.canLay0 && decide (d.depth ≤ 64)) = true
  rw [h1, decide_eq_true (Nat.le_trans h2 hn)]
  rfl
mutual
theorem pl_eqv : ∀ {d e : PyData} {n m : Nat}, pl n d = true → pl m e = true → (PyData.eqv d e = true ↔ d = e)
  | .none, e, n, m, hd, he => by cases e <;> simp [PyData.eqv] <;> (cases m <;> simp [pl] at he)
  | .int i, e, n, m, hd, he => by cases e <;> simp [PyData.eqv] <;> (cases m <;> simp [pl] at he)
  | .str s, e, n, m, hd, he => by cases e <;> simp [PyData.eqv] <;> (cases m <;> simp [pl] at he)
  | .tuple l, .tuple r, n, m, hd, he => by
    cases n with
    | zero => simp [pl] at hd
    | succ n =>
      cases m with
      | zero => simp [pl] at he
      | succ m =>
        simp only [pl, List.all_eq_true] at hd he
        simp only [PyData.eqv, PyData.tuple.injEq]
        exact pl_eqvAll hd he
  | .tuple l, .none, n, m, hd, he => by simp [PyData.eqv]
  | .tuple l, .int _, n, m, hd, he => by simp [PyData.eqv]
  | .tuple l, .str _, n, m, hd, he => by simp [PyData.eqv]
  | .tuple l, .bool _, n, m, hd, he => by simp [PyData.eqv]
  | .tuple l, .list _, n, m, hd, he => by simp [PyData.eqv]
  | .tuple l, .dict _, n, m, hd, he => by simp [PyData.eqv]
  | .bool _, e, n, m, hd, he => by cases n <;> simp [pl] at hd
  | .list _, e, n, m, hd, he => by cases n <;> simp [pl] at hd
  | .dict _, e, n, m, hd, he => by cases n <;> simp [pl] at hd
theorem pl_eqvAll : ∀ {l r : List PyData} {n m : Nat}, (∀ x ∈ l, pl n x = true) → (∀ x ∈ r, pl m x = true) → (PyData.eqvAll l r = true ↔ l = r)
  | [], [], _, _, _, _ => by simp [PyData.eqvAll]
  | [], _ :: _, _, _, _, _ => by simp [PyData.eqvAll]
  | _ :: _, [], _, _, _, _ => by simp [PyData.eqvAll]
  | x :: l, y :: r, n, m, hl, hr => by
    simp only [PyData.eqvAll, Bool.and_eq_true, List.cons.injEq]
    rw [pl_eqv (hl x (by simp)) (hr y (by simp)), pl_eqvAll (fun z hz => hl z (by simp [hz])) (fun z hz => hr z (by simp [hz]))]
end
theorem pl_eqv_of {d e : PyData} {n m : Nat} {c : Bool} (hd : pl n d = true) (he : pl m e = true) (h : c = true ↔ d = e) : PyData.eqv d e = c := by
  cases c with
  | true => exact (pl_eqv hd he).mpr (h.mp rfl)
  | false =>
    cases q : PyData.eqv d e with
    | false => rfl
    | true => exact absurd (h.mpr ((pl_eqv hd he).mp q)) (by decide)

section
variable {S : Sys} {H H' H1 H2 : Hp} {σ : L2.St} {te ta tb tc tl : TE} {tt : TT} {tr : TA} {o p q : Ob} {os ps : List Ob} {b c : Bool} {v x y z : V} {K : PySem.W.Frag} {d e : PyData} {ds es : List PyData}
theorem rg_eqD (hd : pl 20 d = true) (he : pl 20 e = true) (h : c = true ↔ d = e) : RG S (rEqD K) (.dat d) (.dat e) H (.val (.bl c)) := fun H1 a x y hx hy Q k =>
  ⟨d, e, Rep.dp hx (pl_noL hd), Rep.dp hy (pl_noL he), pl_shaped hd (by decide), pl_shaped he (by decide), by rw [pl_eqv_of hd he h]; exact k _ H1 a.fin rfl⟩
theorem rg_neD (hd : pl 20 d = true) (he : pl 20 e = true) (h : c = true ↔ d = e) : RG S (rNeD K) (.dat d) (.dat e) H (.val (.bl (!c))) := fun H1 a x y hx hy Q k =>
  ⟨d, e, Rep.dp hx (pl_noL hd), Rep.dp hy (pl_noL he), pl_shaped hd (by decide), pl_shaped he (by decide), by rw [pl_eqv_of hd he h]; exact k _ H1 a.fin rfl⟩
end

/-! ### in, not in, index: of a tuple of data -/
def rInTD (K : PySem.W.Frag) (neg : Bool) : R2 := fun x y H Q => ∃ d ds, Dp K H x d ∧ Dp K H y (.tuple ds) ∧ SeqAt.shaped d = true ∧ SeqAt.shaped (.tuple ds) = true ∧ Q (.bl (if neg then !(ds.any fun z => PyData.eqv z d) else ds.any fun z => PyData.eqv z d)) H
theorem op_inTD {X : Cx} (hu : X.A.units + 65 < cLine) : OpR X (compareOp .In) (rInTD X.K false) := by
  rintro pins s σ H x y v u Q I rx ry ⟨d, ds, hd, he, sd, se, q⟩
  obtain ⟨as, r1⟩ := Dp.reads I d x v hd rx
  obtain ⟨bs, r2⟩ := Dp.reads I (.tuple ds) y u he ry
  exact SeqAt.in_tuple_reads r2 r1 (SeqAt.canLay_of_shaped se) (SeqAt.canLay_of_shaped sd) (room_in_shaped sd hu) ⟨.bl _, H, I, rfl, q⟩
theorem op_ninTD {X : Cx} (hu : X.A.units + 65 < cLine) : OpR X (compareOp .NotIn) (rInTD X.K true) := by
  rintro pins s σ H x y v u Q I rx ry ⟨d, ds, hd, he, sd, se, q⟩
  obtain ⟨as, r1⟩ := Dp.reads I d x v hd rx
  obtain ⟨bs, r2⟩ := Dp.reads I (.tuple ds) y u he ry
  exact SeqAt.notIn_tuple_reads r2 r1 (SeqAt.canLay_of_shaped se) (SeqAt.canLay_of_shaped sd) (room_in_shaped sd hu) ⟨.bl _, H, I, rfl, q⟩
/-- in of a list of data -/
def rInLD (K : PySem.W.Frag) (neg : Bool) : R2 := fun x y H Q => ∃ d ds, Dp K H x d ∧ Dp K H y (.list ds) ∧ SeqAt.shaped d = true ∧ SeqAt.shaped (.list ds) = true ∧ Q (.bl (if neg then !(ds.any fun z => PyData.eqv z d) else ds.any fun z => PyData.eqv z d)) H
theorem op_inLD {X : Cx} (hu : X.A.units + 65 < cLine) : OpR X (compareOp .In) (rInLD X.K false) := fun pins s σ H x y v u Q I rx ry ⟨d, ds, hd, he, sd, se, q⟩ => op_inD hu pins s σ H x y v u Q I rx ry ⟨d, ds, hd, he, sd, se, q⟩
theorem op_ninLD {X : Cx} (hu : X.A.units + 65 < cLine) : OpR X (compareOp .NotIn) (rInLD X.K true) := fun pins s σ H x y v u Q I rx ry ⟨d, ds, hd, he, sd, se, q⟩ => op_notInD hu pins s σ H x y v u Q I rx ry ⟨d, ds, hd, he, sd, se, q⟩
/-- t.index(x), t a tuple of data: the first place -/
def rIdxTD (K : PySem.W.Frag) : V → List V → Hp → VK → Prop := fun x xs H Q => ∃ (y : V) (d : PyData) (ds : List PyData), xs = [y] ∧ Dp K H x (.tuple ds) ∧ Dp K H y d ∧ SeqAt.shaped d = true ∧ SeqAt.shaped (.tuple ds) = true ∧ (ds.any fun z => PyData.eqv z d) = true ∧ Q (.int ((ds.map fun z => PyData.eqv z d).idxOf true : Nat)) H
theorem each_reads {h : Heap} : ∀ {ds : List PyData} {vs : List Value} {as : List Addr}, ReadsAll h vs ds as → vs.length = ds.length ∧ ∀ (j : Nat) (u : Value) (z : PyData), vs[j]? = some u → ds[j]? = some z → ∃ bs, Reads h u z bs
  | _, _, _, .nil => ⟨rfl, fun j u z e => by simp at e⟩
  | _, _, _, .cons r t => by
    obtain ⟨h1, h2⟩ := each_reads t
    refine ⟨by simp [h1], fun j u z e1 e2 => ?_⟩
    cases j with
    | zero => simp at e1 e2; subst e1 e2; exact ⟨_, r⟩
    | succ j => exact h2 j u z (by simpa using e1) (by simpa using e2)
theorem mt_idxTD {X : Cx} (hu : X.A.units + 65 < cLine) : MtR X "tuple.index" (rIdxTD X.K) := by
  rintro pins s σ H x xs v us Q I rx rxs ⟨y, d, ds, rfl, hx, hy, sd, st, hany, q⟩
  obtain ⟨uy, rfl, ry⟩ := vals1 rxs
  obtain ⟨bs, r1⟩ := Dp.reads I d y uy hy ry
  obtain ⟨as, r2⟩ := Dp.reads I (.tuple ds) x v hx rx
  have lay : PyData.canLayAll0 ds = true := SeqAt.canLay_of_shaped st
  have hroom : X.A.units + 1 + min (PyData.depthAll ds) d.depth < cLine := room_in_shaped sd hu
  cases r2 with
  | @tuple a ob its as' n _ h1 h2 h3 h4 =>
    obtain ⟨hl, each⟩ := each_reads h4
    refine SeqAt.call_tuple_index (vs := its.toList) (ks := ds.map fun z => PyData.eqv z d) (k := true) ⟨_, h1, h2, _, by simpa using h3⟩ ⟨by simpa using hl, fun j g1 g2 => ?_⟩ ?_ ⟨.int _, H, I.tok _, ⟨_, rfl⟩, q⟩
    · have key := SeqAt.items_eqAt (A := X.A) (s := s) h4 r1 lay (SeqAt.canLay_of_shaped sd) hroom its.toList[j] (by simp)
      have e1 : SeqAt.readOf s.heap its.toList[j] = ds[j]'(by simpa using g2) := by
        have hm := SeqAt.readsAll_map ds its.toList _ lay h4
        have := congrArg (fun l : List PyData => l[j]?) hm
        simp only [List.getElem?_map] at this
        rw [List.getElem?_eq_getElem g1, List.getElem?_eq_getElem (by simpa using g2)] at this
        exact Option.some.inj this
      rw [e1] at key
      have e2 : decide ((ds.map fun z => PyData.eqv z d)[j] = true) = PyData.eqv (ds[j]'(by simpa using g2)) d := by
        rw [List.getElem_map]
        cases PyData.eqv (ds[j]'(by simpa using g2)) d <;> rfl
      rw [e2]
      exact key
    · obtain ⟨z, hz, e⟩ := List.any_eq_true.mp hany
      exact List.mem_map.mpr ⟨z, hz, e⟩
end Ed

set_option maxHeartbeats 1000000
/-! EdSort: sorted over data: of a list, of a dict with tuple keys. -/
namespace Ed
open PySem PySem.Spec PyProof.Rows L2
section
variable {X : Cx} {pins : List (Addr × Obj)} {σ : L2.St} {H : Hp} {s : Shared}
mutual
theorem Rep.reads0 (ok : HOk X.prog X.w H s.heap) : ∀ {d : PyData} {v : V} {u : Value}, Rep H v d → noL d = true → RelV v u → Reads s.heap u d []
  | _, _, _, .non, _, r => by cases r; exact .none
  | _, _, _, .int i, _, r => by obtain ⟨t, rfl⟩ := r; exact .int i t
  | _, _, _, .str x, _, r => by obtain ⟨t, rfl⟩ := r; exact .str x t
  | _, _, _, .tup h rs, n, r => by
    cases r
    obtain ⟨_, its, rv, o, ho, hc, m, hd⟩ := ok _ _ h
    exact .tuple ho hc hd (Reps.reads0 ok rs (by simpa only [noL] using n) rv)
  | _, _, _, .frz _ _ _, n, _ => by simp [noL] at n
theorem Reps.reads0 (ok : HOk X.prog X.w H s.heap) : ∀ {ds : List PyData} {vs : List V} {us : List Value}, Reps H vs ds → noLs ds = true → Vals vs us → ReadsAll s.heap us ds []
  | _, _, _, .nil, _, r => by cases r; exact .nil
  | _, _, _, .cons h t, n, r => by
    simp only [noLs, Bool.and_eq_true] at n
    cases r with
    | cons r1 r2 => exact ReadsAll.cons (as := []) (bs := []) (Rep.reads0 ok h n.1 r1) (Reps.reads0 ok t n.2 r2)
end
end
section
variable {α : Type} {enc : α → PyData} {H : Hp}
/-- a value that is the data of a thing -/
def RV (H : Hp) (enc : α → PyData) (u : Value) (b : α) : Prop := ∃ x : V, RelV x u ∧ Rep H x (enc b)
theorem each_of : ∀ {bs : List α} {xs : List V} {us : List Value}, Vals xs us → Reps H xs (bs.map enc) → PySem.W.EachIs (RV H enc) us bs
  | [], _, _, r, h => by cases h; cases r; exact .nil
  | b :: bs, _, _, r, h => by
    cases h with
    | cons h1 h2 => cases r with | cons r1 r2 => exact .cons ⟨_, r1, h1⟩ (each_of r2 h2)
theorem of_each : ∀ {bs : List α} {us : List Value}, PySem.W.EachIs (RV H enc) us bs → ∃ xs, Vals xs us ∧ Reps H xs (bs.map enc)
  | [], _, .nil => ⟨[], .nil, .nil⟩
  | b :: bs, _, .cons h t => by
    obtain ⟨x, h1, h2⟩ := h
    obtain ⟨xs, h3, h4⟩ := of_each t
    exact ⟨x :: xs, .cons h1 h3, .cons h2 h4⟩
theorem each_read {h : Heap} : ∀ {bs : List α} {us : List Value}, ReadsAll h us (bs.map enc) [] → PySem.W.EachIs (fun u b => Reads h u (enc b) []) us bs
  | [], _, r => by cases r; exact .nil
  | b :: bs, us, r => by
    rw [List.map_cons] at r
    generalize e : ([] : List Addr) = as at r
    cases r with
    | cons h1 h2 =>
      obtain ⟨rfl, rfl⟩ := List.append_eq_nil_iff.mp e.symm
      exact .cons h1 (each_read h2)
theorem len_each {R : Value → α → Prop} {bs : List α} {us : List Value} (e : PySem.W.EachIs R us bs) : us.length = bs.length := e.length
end
/-- what sorting asks of the things -/
structure Srt {α : Type} (enc : α → PyData) (bs : List α) : Prop where
  al : PySem.W.AllAlike (bs.map enc)
  so : PySem.W.Sortable (bs.map enc)
  pn : ∀ b ∈ bs, pl 20 (enc b) = true
  fw : bs.length ≤ 100000
theorem Srt.noL {α : Type} {enc : α → PyData} {bs : List α} (h : Srt enc bs) : noLs (bs.map enc) = true := pl_noLs fun x hx => by
  obtain ⟨b, hb, rfl⟩ := List.mem_map.mp hx
  exact pl_noL (h.pn b hb)
theorem Srt.line {α : Type} {enc : α → PyData} {bs : List α} (h : Srt enc bs) : bs.length ≤ sizeLine := small h.fw
/-- the sorted things -/
def srt {α : Type} (enc : α → PyData) (bs : List α) : List α := bs.mergeSort (PySem.W.dataLe false enc)
section
variable {X : Cx} {α : Type}
def rSrtL (K : PySem.W.Frag) (enc : α → PyData) : List V → Hp → VK → Prop := fun vs H Q => ∃ (a : Addr) (xs : List V) (bs : List α), vs = [V.ref a] ∧ SqL K H a xs ∧ Reps H xs (bs.map enc) ∧ Srt enc bs ∧
  ∀ (ys : List V) (p : Addr), Reps H ys ((srt enc bs).map enc) → H p = none → Q (.ref p) (upd H p (.lst ys))
theorem cr_srtL {k : Nat} (hr : Room k X.A) (enc : α → PyData) : CallR X (.builtin "sorted") (rSrtL X.K enc) := by
  rintro pins s σ H vs us Q I r ⟨a, xs, bs, rfl, hs, hx, hb, q⟩
  obtain ⟨its, rv, hl, hz⟩ := I.list hs
  rw [Vals.ref1 r]
  have rd := each_read (Reps.reads0 (X := X) (s := s) I.hok hx hb.noL rv)
  refine PySem.W.sorted_data (R := RV H enc) hl.isList (each_of rv hx) (rd.mono fun u b h => ⟨[], h⟩) hb.al hb.so hb.line (fun b hbm => ?_) fun out h1 h2 => ?_
  · have h3 := (pl_lay (hb.pn b hbm)).2
    have h4 := hr.un
    omega
  · obtain ⟨ys, g1, g2⟩ := of_each h2
    obtain ⟨ep, he⟩ := PyProof.Rows.sortedAll_at s.heap its out.toArray
    have hlen : ys.length ≤ sizeLine := by rw [g1.length, h1]; exact hb.line
    exact ⟨.ref _, _, I.laid (t' := s.toks) (o := .lst ys) (fun _ _ => PyProof.Rows.sortedAll_old) (Nat.le_succ _) ⟨hlen, out, ep, g1, he⟩, rfl, q ys _ g2 (I.hok.fresh (Nat.le_succ _))⟩
/-- sorted(d), the keys of d tuples that are told by enc -/
def rSrtD (enc : α → PyData) (key : α → List Key) : List V → Hp → VK → Prop := fun vs H Q => ∃ (a : Addr) (kvs : List (List Key × V)) (bs : List α), vs = [V.ref a] ∧ Rd H a (.dT kvs) ∧ kvs.map (·.1) = bs.map key ∧ (∀ b ∈ bs, ∀ t, H t = some (.tup ((key b).map kV)) → Rep H (.ref t) (enc b)) ∧ Srt enc bs ∧
  ∀ (ys : List V) (p : Addr), Reps H ys ((srt enc bs).map enc) → H p = none → Q (.ref p) (upd H p (.lst ys))
theorem reps_keys {H : Hp} {enc : α → PyData} {key : α → List Key} : ∀ {kvs : List (List Key × V)} {xs : List (List Key × Addr × Value)} {bs : List α}, KT H kvs xs → kvs.map (·.1) = bs.map key → (∀ b ∈ bs, ∀ t, H t = some (.tup ((key b).map kV)) → Rep H (.ref t) (enc b)) →
    Reps H ((xs.map fun x => x.2.1).map V.ref) (bs.map enc)
  | _, _, [], .nil, _, _ => .nil
  | _, _, [], .cons _ _, e, _ => by simp at e
  | _, _, _ :: _, .nil, e, _ => by simp at e
  | _, _, b :: bs, .cons h t, e, k => by
    simp only [List.map_cons, List.cons.injEq] at e
    refine .cons (k b (by simp) _ ?_) (reps_keys t e.2 fun c hc => k c (by simp [hc]))
    rw [← e.1]
    exact h.2.1
theorem cr_srtD {k : Nat} (hr : Room k X.A) (hc : X.calm = true) (enc : α → PyData) (key : α → List Key) : CallR X (.builtin "sorted") (rSrtD enc key) := by
  rintro pins s σ H vs us Q I r ⟨d, kvs, bs, rfl, hd, hk, hkey, hb, q⟩
  obtain ⟨u, rfl, rx⟩ := vals1 r
  cases rx
  obtain ⟨z, hs, ks, pr, o, es, ep, ho, hx, hdt, he, hn⟩ := (show ObjOk X.prog X.w H s.heap d (.dT kvs) from hd.ok I.hok)
  have l1 : es.size = ks.length := size_of_entries he
  have l2 : kvs.length = ks.length := Paired.length pr
  have rk := reps_keys pr hk hkey
  refine Calls.call_function_entry PyProof.Rows.kind_sorted PyProof.Rows.plain_sorted PyProof.Rows.entry_sorted (PyProof.Rows.args_sorted1 _) ?_
  unfold Builtin.«sorted»
  refine wpAny_bind (m := checkCount "sorted" 1 1 _) (wpAny_pure ?_)
  refine wpAny_bind (PySem.W.kdu_collect (A := X.A.in1) (kdl_raw hs hx hdt) (I.ok.hd hc) ho (by omega) fun h' tk acc kp it => ?_)
  have eb : acc.toList = (ks.map fun x => x.2.1).map Value.ref := by
    have hl : acc.toList.length = ks.length := by rw [Array.length_toList, it.1]; exact l1
    rw [List.map_map]
    apply List.ext_getElem?
    intro j
    rw [List.getElem?_map]
    cases hj : acc.toList[j]? with
    | none => rw [List.getElem?_eq_none (by have := List.getElem?_eq_none_iff.mp hj; omega)]; rfl
    | some v =>
      obtain ⟨en, hen, hv⟩ := it.2 j v (by rw [← Array.getElem?_toList]; exact hj)
      have qe := entry_at he j
      rw [hen] at qe
      cases hbj : ks[j]? with
      | none => rw [hbj] at qe; exact nomatch (show some en = none from qe)
      | some b =>
        rw [hbj] at qe
        rw [hv, show en = entryOfKey (tupleKind (mixKind X.prog X.w)) b from Option.some.inj qe]
        rfl
  have rv : Vals ((ks.map fun x => x.2.1).map V.ref) acc.toList := by rw [eb]; exact vals_refs _
  have I1 : Inv X pins σ H { s with heap := h', toks := tk } := I.kept kp
  have lb : bs.length = ks.length := by have := congrArg List.length hk; simp only [List.length_map] at this; omega
  have hal : acc.toList.length ≤ sizeLine := by rw [eb]; simp only [List.length_map]; rw [← lb]; exact hb.line
  refine wpAny_bind (wpAny_newList ?_ hal)
  have hoL : (h'.push (seqObj "list" acc.toList.toArray 0)).get? h'.objs.size = some (seqObj "list" acc.toList.toArray 0) := Heap.get?_push_size _ rfl
  show wpAny _ _ _ _ _ { s with heap := h'.push (seqObj "list" acc.toList.toArray 0), toks := tk }
  have I2 : Inv X pins σ H { s with heap := h'.push (seqObj "list" acc.toList.toArray 0), toks := tk } := I1.kept fun b o e => Heap.get?_push_of_some _ e
  have rd := each_read (Reps.reads0 (X := X) (s := { s with heap := h'.push (seqObj "list" acc.toList.toArray 0), toks := tk }) I2.hok rk hb.noL rv)
  refine wpAny_bind (wpAny_holding (PySem.W.list_sort_data (A := X.A.in1) (R := RV H enc) hoL (each_of rv rk) (rd.mono fun u b h => ⟨[], h, by simp⟩) hb.al hb.so hb.line (fun b hbm => ?_) fun out h1 h2 => ?_))
  · have h3 := (pl_lay (hb.pn b hbm)).2
    have h4 := hr.un
    show X.A.units + 1 + 1 + (enc b).depth < cLine
    omega
  · obtain ⟨ys, g1, g2⟩ := of_each h2
    obtain ⟨e', he'⟩ := PyProof.Rows.sortedHeap_at (vs := acc.toList) (out := out.toArray) hoL
    have hlen : ys.length ≤ sizeLine := by rw [g1.length, h1]; exact hb.line
    refine wpAny_pure ⟨_, rfl, .ref h'.objs.size, upd H h'.objs.size (.lst ys), I1.laid (t' := tk) (fun b u e => ?_) (Nat.le_refl _) (show ObjOk X.prog X.w _ _ _ (.lst ys) from ⟨hlen, out, e', g1, he'⟩), rfl, q ys _ g2 (I1.hok.fresh (Nat.le_refl _))⟩
    have hb : b < h'.objs.size := Heap.lt_size e
    rw [PyProof.Rows.sortedHeap_old (Nat.ne_of_lt hb) (by rw [size_push']; exact Nat.lt_succ_of_lt hb)]
    exact Heap.get?_push_of_some _ e
end
end Ed

set_option maxHeartbeats 1000000
/-! EdGo: the built-ins over data, as evaluations. -/
namespace Ed
open PySem PySem.Spec PyProof.Rows L2
/-- a < b of alike data -/
def rLtD (K : PySem.W.Frag) : R2 := fun x y H Q => ∃ d e, Rep H x d ∧ Rep H y e ∧ PySem.W.alike d e = true ∧ d ≠ .none ∧ pl 20 d = true ∧ pl 20 e = true ∧ Q (.bl (PySem.W.dataLt d e)) H
theorem op_ltD {X : Cx} {k : Nat} (hr : Room k X.A) : OpR X (compareOp .Lt) (rLtD X.K) := by
  rintro pins s σ H x y v u Q I rx ry ⟨d, e, hd, he, al, hn, hp, hpe, q⟩
  have r1 := Rep.reads0 (X := X) (s := s) I.hok hd (pl_noL hp) rx
  have r2 := Rep.reads0 (X := X) (s := s) I.hok he (pl_noL hpe) ry
  have h3 := (pl_lay hp).2
  have h4 := hr.un
  exact PySem.W.rcLt_alike d e X.A s v u [] [] r1 r2 al hn (by omega) X.prog X.w X.xe _ ⟨.bl _, H, I, rfl, q⟩
section
variable {S : Sys} {H H' H1 H2 : Hp} {σ : L2.St} {te ta tb tc tl : TE} {tt : TT} {tr : TA} {o p q : Ob} {os ps : List Ob} {b c : Bool} {v x y z : V} {K : PySem.W.Frag} {d e : PyData} {ds es : List PyData}
variable {α : Type} {enc : α → PyData} {l : List α}
theorem rg_ltD (al : PySem.W.alike d e = true) (hn : d ≠ .none) (hp : pl 20 d = true) (hpe : pl 20 e = true) : RG S (rLtD K) (.dat d) (.dat e) H (.val (.bl (PySem.W.dataLt d e))) := fun H1 a x y hx hy Q k =>
  ⟨d, e, hx, hy, al, hn, hp, hpe, k _ H1 a.fin rfl⟩
/-! tuple(..), list(..), len(..) -/
abbrev rTupOf (K : PySem.W.Frag) : List V → Hp → VK → Prop := fun xs H Q => ∃ p ys, xs = [.ref p] ∧ ((SqL K H p ys ∧ ∀ l, H l = none → Q (.ref l) (upd H l (.tup ys))) ∨ (SqT K H p ys ∧ Q (.ref p) H))
theorem gv_tupleL (h : GvL S te σ H (ds.map Ob.dat)) : Gv S (tCB (rTupOf K) (tCons te tNil)) σ H (.dat (.tuple ds)) :=
  gv_takeL h fun H1 p xs a he hxs Q k => ⟨p, xs, rfl, .inl ⟨SqL.of he, fun l hl => k _ _ (.new a.j' hl) (.tup upd_same (hxs.to (.new (S := S) a.j' hl)).reps)⟩⟩
/-- of a list that stands -/
theorem gv_tupleV {a : Addr} {xs : List V} (h : Gv S te σ H (.val (.ref a))) (ha : ∀ H1, S.T H H1 → H1 a = some (.lst xs)) (hx : ∀ H1, S.T H H1 → Reps H1 xs ds) : Gv S (tCB (rTupOf K) (tCons te tNil)) σ H (.dat (.tuple ds)) := fun H1 b Q k =>
  h H1 b _ fun v H2 b2 hv => by
    cases hv
    have b3 := b.trans b2
    exact ⟨a, xs, rfl, .inl ⟨SqL.of (ha H2 b3), fun l hl => k _ _ (b2.trans (.new b2.j' hl)) (.tup upd_same ((hx H2 b3).mono (Sys.T.new (S := S) b2.j' hl).tups))⟩⟩
abbrev rLstOf (K : PySem.W.Frag) : List V → Hp → VK → Prop := fun xs H Q => ∃ p ys, xs = [.ref p] ∧ (SqL K H p ys ∨ SqT K H p ys) ∧ ∀ l, H l = none → Q (.ref l) (upd H l (.lst ys))
theorem gl_listT (h : Gv S te σ H (.dat (.tuple ds))) : GvL S (tCB (rLstOf K) (tCons te tNil)) σ H (ds.map Ob.dat) := fun H1 a Q k =>
  h H1 a _ fun v H2 a2 hv => by
    obtain ⟨t, xs, rfl, ht, hr⟩ := Rep.inv hv
    exact ⟨t, xs, rfl, .inr (SqT.of ht), fun l hl => k l xs _ (a2.free hl) (a2.trans (.new a2.j' hl)) upd_same (hr.mono (Sys.T.new (S := S) a2.j' hl).tups).isL⟩
/-- of a list that stands -/
theorem gl_listV {a : Addr} {xs : List V} (h : Gv S te σ H (.val (.ref a))) (ha : ∀ H1, S.T H H1 → H1 a = some (.lst xs)) (hx : ∀ H1, S.T H H1 → IsL H1 xs os) : GvL S (tCB (rLstOf K) (tCons te tNil)) σ H os := fun H1 b Q k =>
  h H1 b _ fun v H2 b2 hv => by
    cases hv
    have b3 := b.trans b2
    exact ⟨a, xs, rfl, .inl (SqL.of (ha H2 b3)), fun l hl => k l xs _ (b2.free hl) (b2.trans (.new b2.j' hl)) upd_same ((hx H2 b3).to (.new (S := S) b2.j' hl))⟩
abbrev rLenSq (K : PySem.W.Frag) : List V → Hp → VK → Prop := fun xs H Q => ∃ p ys, xs = [.ref p] ∧ (SqL K H p ys ∨ SqT K H p ys) ∧ Q (.int ys.length) H
theorem gv_lenT {dd : PyData} (h : Gv S te σ H (.dat dd)) (w : Row dd ds := by exact .inl rfl) : Gv S (tCB (rLenSq K) (tCons te tNil)) σ H (.val (.int (ds.length : Int))) := fun H1 a Q k =>
  h H1 a _ fun v H2 a2 hv => by
    obtain ⟨t, xs, rfl, ht, hr, _⟩ := Rep.row (K := K) w hv
    exact ⟨t, xs, rfl, .inr ht, k _ H2 a2 (by rw [hr.length]; rfl)⟩
theorem gv_lenV {a : Addr} {xs : List V} (h : Gv S te σ H (.val (.ref a))) (ha : ∀ H1, S.T H H1 → H1 a = some (.lst xs)) : Gv S (tCB (rLenSq K) (tCons te tNil)) σ H (.val (.int (xs.length : Int))) := fun H1 b Q k =>
  h H1 b _ fun v H2 b2 hv => by
    cases hv
    exact ⟨a, xs, rfl, .inl (SqL.of (ha H2 (b.trans b2))), k _ H2 b2 rfl⟩
theorem gv_lenL (h : GvL S te σ H os) : Gv S (tCB (rLenSq K) (tCons te tNil)) σ H (.val (.int (os.length : Int))) :=
  gv_takeL h fun H1 p xs a he hxs Q k => ⟨p, xs, rfl, .inl (SqL.of he), k _ H1 a.fin (by rw [hxs.length]; rfl)⟩
/-- len of a text -/
theorem gv_lenS {z : Str} (h : Gv S te σ H (.val (.str z))) (hz : z.length ≤ 100000) : Gv S (tCB (fun xs H Q => ∃ x n, xs = [x] ∧ LenV K x H n ∧ Q (.int n) H) (tCons te tNil)) σ H (.val (.int (z.length : Int))) := fun H1 a Q k =>
  h H1 a _ fun v H2 a2 hv => by
    cases hv
    exact ⟨_, _, rfl, ⟨small hz, rfl⟩, k _ H2 a2 rfl⟩
/-! isinstance -/
theorem gv_isiT {r : Bool} {nm : String} {dd : PyData} (h : Gv S te σ H (.dat dd)) (hk : kitB "tuple" nm = some r) (w : Row dd ds := by exact .inl rfl) : Gv S (tCB (rIsi K) (tCons te (tCons (tC (.ty nm)) tNil))) σ H (.val (.bl r)) := fun H1 a Q k =>
  h H1 a _ fun v H2 a2 hv => by
    obtain ⟨t, xs, rfl, ht, hr, z⟩ := Rep.row (K := K) w hv
    rcases z with z | ⟨o, z, _⟩
    · exact ⟨_, _, _, _, r, rfl, .ty nm, .base (.tup z), kit_ty hk, k _ H2 a2 rfl⟩
    · exact ⟨_, _, _, _, r, rfl, .ty nm, .fTuple z, kit_ty hk, k _ H2 a2 rfl⟩
theorem gv_isiI {r : Bool} {nm : String} {i : Int} (h : Gv S te σ H (.val (.int i))) (hk : kitB "int" nm = some r) : Gv S (tCB (rIsi K) (tCons te (tCons (tC (.ty nm)) tNil))) σ H (.val (.bl r)) := fun H1 a Q k =>
  h H1 a _ fun v H2 a2 hv => by
    cases hv
    exact ⟨_, _, _, _, r, rfl, .ty nm, .base (.int i), kit_ty hk, k _ H2 a2 rfl⟩
theorem gv_isiS {r : Bool} {nm : String} {i : Str} (h : Gv S te σ H (.val (.str i))) (hk : kitB "str" nm = some r) : Gv S (tCB (rIsi K) (tCons te (tCons (tC (.ty nm)) tNil))) σ H (.val (.bl r)) := fun H1 a Q k =>
  h H1 a _ fun v H2 a2 hv => by
    cases hv
    exact ⟨_, _, _, _, r, rfl, .ty nm, .base (.str i), kit_ty hk, k _ H2 a2 rfl⟩
/-! in, not in, index -/
theorem pl_tup (h : ∀ a ∈ l, pl 19 (enc a) = true) : pl 20 (.tuple (l.map enc)) = true := by
  simp only [pl, List.all_eq_true, List.mem_map]
  rintro x ⟨a, ha, rfl⟩
  exact h a ha
theorem any_eqv (h : ∀ a ∈ l, pl 19 (enc a) = true) (hd : pl 20 d = true) (hc : c = true ↔ ∃ a ∈ l, enc a = d) : ((l.map enc).any fun z => PyData.eqv z d) = c := by
  rw [Bool.eq_iff_iff, hc, List.any_eq_true]
  constructor
  · rintro ⟨z, hz, e⟩
    obtain ⟨a, ha, rfl⟩ := List.mem_map.mp hz
    exact ⟨a, ha, (pl_eqv (h a ha) hd).mp e⟩
  · rintro ⟨a, ha, e⟩
    exact ⟨_, List.mem_map.mpr ⟨a, ha, rfl⟩, (pl_eqv (h a ha) hd).mpr e⟩
theorem rg_inTD {neg : Bool} {dd : PyData} (h : ∀ a ∈ l, pl 19 (enc a) = true) (hd : pl 20 d = true) (hc : c = true ↔ ∃ a ∈ l, enc a = d) (w : Row dd (l.map enc) := by exact .inl rfl) : RG S (rInTD K neg) (.dat d) (.dat dd) H (.val (.bl (if neg then !c else c))) := fun H1 a x y hx hy Q k => by
  obtain ⟨t, xs, rfl, ht, hr, _⟩ := Rep.row (K := K) w hy
  have hp := pl_tup h
  exact ⟨d, _, Rep.dp hx (pl_noL hd), .tup ht (Reps.dp hr (by simpa only [noL] using pl_noL hp)), pl_shaped hd (by decide), pl_shaped hp (by decide), by rw [any_eqv h hd hc]; exact k _ H1 a.fin rfl⟩
/-- a list made on the way: x in [..] -/
theorem gv_inL {neg : Bool} (ha : Gv S ta σ H (.dat d)) (hb : GvL S tb σ H ((l.map enc).map Ob.dat)) (h : ∀ a ∈ l, pl 19 (enc a) = true) (hd : pl 20 d = true) (hc : c = true ↔ ∃ a ∈ l, enc a = d) : Gv S (tOp (rInLD K neg) ta tb) σ H (.val (.bl (if neg then !c else c))) := fun H1 a Q k =>
  ha H1 a _ fun x H2 a2 hx => hb H2 (a.trans a2) _ fun p xs H3 hp a3 he hxs => by
    refine ⟨d, l.map enc, Rep.dp (hx.to a3) (pl_noL hd), .lst (SqL.of he) (Reps.dp hxs.reps (by simpa only [noL] using pl_noL (pl_tup h))), pl_shaped hd (by decide), ?_, by rw [any_eqv h hd hc]; exact k _ H3 (a2.trans a3) rfl⟩
    have q := pl_shaped (pl_tup h) (by decide)
    have q1 : PyData.canLay0 (.list (l.map enc)) = true := by
      have := SeqAt.canLay_of_shaped q
      simp only [PyData.canLay0] at this ⊢
      exact this
    have q2 : PyData.depth (.list (l.map enc)) ≤ 64 := by
      have := SeqAt.depth_of_shaped q
      simp only [PyData.depth] at this ⊢
      exact this
    exact Bool.and_eq_true_iff.mpr ⟨q1, decide_eq_true q2⟩
theorem idxOf_map {d : PyData} (h : ∀ a ∈ l, pl 19 (enc a) = true) (hd : pl 20 d = true) [DecidableEq α] {a : α} (hi : ∀ b ∈ l, enc b = d ↔ b = a) : ((l.map enc).map fun z => PyData.eqv z d).idxOf true = l.idxOf a := by
  induction l with
  | nil => rfl
  | cons b r ih =>
    have ih' := ih (fun x hx => h x (by simp [hx])) (fun x hx => hi x (by simp [hx]))
    have hb : PyData.eqv (enc b) d = decide (b = a) := pl_eqv_of (h b (by simp)) hd (by rw [decide_eq_true_iff]; exact (hi b (by simp)).symm)
    rw [List.map_cons, List.map_cons, List.idxOf_cons, List.idxOf_cons, hb, ih']
    have e : (decide (b = a) == true) = (b == a) := by
      by_cases z : b = a
      · rw [decide_eq_true z, z, beq_self_eq_true, beq_self_eq_true]
      · rw [decide_eq_false z, beq_eq_false_iff_ne.mpr z]
        rfl
    rw [e]
/-- t.index(x), t's very object known -/
def tIdx (K : PySem.W.Frag) (to : TE) (ta : TA) : TE := fun σ H Q => to σ H fun x H1 => (∃ p o xs, x = .ref p ∧ H1 p = some (.frz o (.tup xs)) ∧ o.dict = none) ∧ ta σ H1 fun xs H2 => rIdxTD K x xs H2 Q
theorem gv_idxT [DecidableEq α] {a : α} (ha : Gv S ta σ H (.dat (.list (l.map enc)))) (hb : Gv S tb σ H (.dat d)) (h : ∀ a ∈ l, pl 19 (enc a) = true) (hd : pl 20 d = true) (hi : ∀ b ∈ l, enc b = d ↔ b = a) (hm : a ∈ l) (he : enc a = d) :
    Gv S (tIdx K ta (tCons tb tNil)) σ H (.val (.int (l.idxOf a : Nat))) := fun H1 a1 Q k =>
  ha H1 a1 _ fun x H2 a2 hx => by
    cases hx with
    | @frz t o xs _ ht hdn hr =>
      refine ⟨⟨t, o, xs, rfl, ht, hdn⟩, hb H2 (a1.trans a2) _ fun y H3 a3 hy => ⟨y, d, l.map enc, rfl, ?_, Rep.dp hy (pl_noL hd), pl_shaped hd (by decide), pl_shaped (pl_tup h) (by decide), any_eqv (c := true) h hd (by simp; exact ⟨a, hm, he⟩), ?_⟩⟩
      · exact .tup (.inl (.inr ⟨o, a3.tups.f _ _ _ ht⟩)) (Reps.dp (hr.mono a3.tups) (by simpa only [noL] using pl_noL (pl_tup h)))
      · rw [idxOf_map h hd hi]
        exact k _ H3 (a2.trans a3) rfl
/-! tuples put together, cut -/
theorem rg_catT (hl : ds.length + es.length ≤ 100000) : RG S (rCatA K) (.dat (.tuple ds)) (.dat (.tuple es)) H (.dat (.tuple (ds ++ es))) := fun H1 a x y hx hy Q k => by
  obtain ⟨t, xs, rfl, ht, hr⟩ := Rep.inv hx
  obtain ⟨u, ys, rfl, hu, hs⟩ := Rep.inv hy
  have l1 := hr.length
  have l2 := hs.length
  refine ⟨t, u, xs, ys, rfl, rfl, SqT.of ht, SqT.of hu, small (by omega), fun e => k _ H1 a.fin ?_, fun _ e => k _ H1 a.fin ?_, fun _ _ p hp => ?_⟩
  · subst e
    have : ds = [] := List.eq_nil_of_length_eq_zero (by simpa using l1.symm)
    subst this
    exact hy
  · subst e
    have : es = [] := List.eq_nil_of_length_eq_zero (by simpa using l2.symm)
    subst this
    rw [List.append_nil]
    exact hx
  · have n := Sys.T.new (S := S) (o := .tup (xs ++ ys)) a.j' hp
    refine k _ _ n (.tup upd_same ?_)
    have h1 := (hr.mono n.tups).isL.append (hs.mono n.tups).isL
    rw [← List.map_append] at h1
    exact h1.reps
theorem IsL.take {H : Hp} {vs : List V} {os : List Ob} (h : IsL H vs os) : ∀ n, IsL H (vs.take n) (os.take n) := by
  induction h with
  | nil => intro n; simp; exact .nil
  | cons h _ ih =>
    intro n
    cases n with
    | zero => exact .nil
    | succ n => exact .cons h (ih n)
theorem cut_take {xs : List V} {n : Nat} (h : n ≤ xs.length) : cutV xs none (some (n : Int)) = xs.take n := by
  unfold cutV
  have e1 : HT.sIx xs.length 0 none = 0 := rfl
  have e2 : HT.sIx xs.length xs.length (some (n : Int)) = n := by rw [HT.sIx_nat]; omega
  rw [e1, e2, List.drop_zero, Nat.sub_zero]
/-- t[:n] -/
theorem gv_slT {dd : PyData} {n : Nat} (h : Gv S te σ H (.dat dd)) (hn : Gv S tb σ H (.val (.int (n : Int)))) (hl : n < ds.length) (w : Row dd ds := by exact .inl rfl) : Gv S (tSl (rSlA K) te tNoPart (tPart tb)) σ H (.dat (.tuple (ds.take n))) := fun H1 a Q k =>
  h H1 a _ fun x H2 a2 hx => hn H2 (a.trans a2) _ fun y H3 a3 hy => by
    cases hy
    obtain ⟨t, xs, rfl, ht, hr, _⟩ := Rep.row (K := K) w (Rep.mono a3.tups hx)
    have l1 := hr.length
    have ec := cut_take (xs := xs) (n := n) (by omega)
    refine ⟨(n : Int), rfl, t, xs, rfl, ht, fun e => ?_, fun _ p hp => ?_⟩
    · have e2 := e.2
      rw [HT.sIx_nat] at e2
      omega
    · rw [ec]
      have nn := Sys.T.new (S := S) (o := .tup (xs.take n)) a3.j' hp
      refine k _ _ ((a2.trans a3).trans nn) (.tup upd_same ?_)
      have h1 := (hr.mono nn.tups).isL.take n
      rw [← List.map_take] at h1
      exact h1.reps
end
section
variable {X : Cx} {o e : Expr} {es : List Expr} {to : TE} {t : TA} {apos cpos : Pos}
theorem pe_idx (hu : X.A.units + 65 < cLine) (ho : PE X o to) (ha : PA X (e :: es) t)
    (hbase : attributeBase o "index" X.env (eval o X.env) = eval o X.env := by rfl)
    (hfew : ((backTo cpos (starEach (e :: es) X.env)).all (fun x => !x.1) && (backToKw cpos (keywordEach [] X.env)).all (fun x => x.1.isSome)
      && decide ((e :: es).length + ([] : List Keyword).length + (if ([] : List Keyword).isEmpty then 0 else 1) < 30)) = true := by rfl)
    (hline : (apos.endLine == cpos.line) = true := by rfl) (hs : starEach (e :: es) X.env = (false, eval e X.env) :: starEach es X.env := by rfl) (hplain : (backTo cpos (starEach es X.env)).any (·.1) = false := by rfl) :
    PE X (.Call (.Attribute o "index" apos) (e :: es) [] cpos) (tIdx X.K to t) := by
  refine ⟨fun pins s σ H Q I h => ?_⟩
  refine wpAny_Call_method_late hbase hfew hline rfl (thn (ho.run pins s σ H _ I h) fun v s1 ⟨x, H1, I1, r1, ⟨p, ob, xs, ex, hp, hd⟩, q1⟩ => ?_)
  subst ex
  cases r1
  obtain ⟨g1, _, its, rv, o2, g2, g3, n, g4⟩ := I1.hok p _ hp
  rw [g1] at g2
  cases g2
  refine ⟨"tuple", "tuple.index", PySem.F.plainAttrs_tuple, PySem.F.slot_tuple_index, PySem.F.type_tuple_index, ⟨ob, g1, g3⟩, fun a e => by cases e; exact ⟨ob, g1, hd⟩, ?_⟩
  have hA := ha.run cpos pins s1 σ H1 _ I1 q1
  rw [hs] at hA ⊢
  have hpl : ((false, eval e X.env) :: backTo cpos (starEach es X.env)).any (·.1) = false := by
    show (false || (backTo cpos (starEach es X.env)).any (·.1)) = false
    rw [hplain]
    rfl
  refine Calls.callWith_builtin hpl (Calls.evalArgs_plain (thn hA fun us s2 ⟨vs, H2, I2, r2, q2⟩ => ?_))
  exact mt_idxTD hu pins s2 σ H2 (.ref p) vs _ us Q I2 rfl r2 q2
end

/-- tuple(l): a tuple whose very object is known -/
def rTupF (K : PySem.W.Frag) : List V → Hp → VK → Prop := fun xs H Q => ∃ p ys, xs = [.ref p] ∧ SqL K H p ys ∧ ∀ l o, H l = none → o.dict = none → Q (.ref l) (upd H l (.frz o (.tup ys)))
theorem call_tupleF {X : Cx} : CallR X (.type "tuple") (rTupF X.K) := by
  rintro pins s σ H xs us Q I r ⟨p, ys, rfl, hq, q⟩
  obtain ⟨u, rfl, rx⟩ := vals1 r
  cases rx
  obtain ⟨its, r', pl, hz⟩ := I.list hq
  have hlen := r'.length
  refine call_tuple_list pl.isList (fun h' kp => ?_) (by simp only [List.size_toArray] <;> omega)
  have I1 : Inv X pins σ H { s with heap := h' } := I.kept (t' := s.toks) kp
  have new : ObjOk X.prog X.w (upd H h'.objs.size (.frz { cls := .type "tuple", data := .seq its.toArray } (.tup ys))) (h'.push { cls := .type "tuple", data := .seq its.toArray }) h'.objs.size (.frz { cls := .type "tuple", data := .seq its.toArray } (.tup ys)) :=
    ⟨Heap.get?_push_size _ rfl, hz, its, r', IsTup.new _ _⟩
  exact ⟨.ref h'.objs.size, _, I1.laid (t' := s.toks) (fun b o e => Heap.get?_push_of_some _ e) (Nat.le_refl _) new, rfl, q _ _ (I1.hok.fresh (Nat.le_refl _)) rfl⟩
section
variable {S : Sys} {H H' H1 H2 : Hp} {σ : L2.St} {te ta tb tc tl : TE} {tt : TT} {tr : TA} {o p q : Ob} {os ps : List Ob} {b c : Bool} {v x y z : V} {K : PySem.W.Frag} {d e : PyData} {ds es : List PyData}
variable {α : Type} {enc : α → PyData} {l : List α}
theorem gv_tupleF {a : Addr} {xs : List V} (h : Gv S te σ H (.val (.ref a))) (ha : ∀ H1, S.T H H1 → H1 a = some (.lst xs)) (hx : ∀ H1, S.T H H1 → Reps H1 xs ds) : Gv S (tCB (rTupF K) (tCons te tNil)) σ H (.dat (.list ds)) := fun H1 b Q k =>
  h H1 b _ fun v H2 b2 hv => by
    cases hv
    have b3 := b.trans b2
    exact ⟨a, xs, rfl, SqL.of (ha H2 b3), fun l o hl ho => k _ _ (b2.trans (.new b2.j' hl)) (.frz upd_same ho ((hx H2 b3).mono (Sys.T.new (S := S) b2.j' hl).tups))⟩
/-! sorted -/
theorem gl_sorted (h : GvL S te σ H ((l.map enc).map Ob.dat)) (hs : Srt enc l) : GvL S (tCB (rSrtL K enc) (tCons te tNil)) σ H (((srt enc l).map enc).map Ob.dat) := fun H1 a Q k =>
  h H1 a _ fun p xs H2 hp a2 he hxs => ⟨p, xs, l, rfl, SqL.of he, hxs.reps, hs, fun ys r hy hr => k r ys _ (a2.free hr) (a2.trans (.new a2.j' hr)) upd_same (hy.mono (Sys.T.new (S := S) a2.j' hr).tups).isL⟩
theorem gl_sortedD {key : α → List Key} {a : Addr} {kvs : List (List Key × V)} (h : Gv S te σ H (.val (.ref a))) (ha : ∀ H1, S.T H H1 → H1 a = some (.dT kvs)) (hk : kvs.map (·.1) = l.map key) (hkey : ∀ b ∈ l, ∀ (H1 : Hp) t, H1 t = some (.tup ((key b).map kV)) → Rep H1 (.ref t) (enc b)) (hs : Srt enc l) :
    GvL S (tCB (rSrtD enc key) (tCons te tNil)) σ H (((srt enc l).map enc).map Ob.dat) := fun H1 b Q k =>
  h H1 b _ fun v H2 b2 hv => by
    cases hv
    exact ⟨a, kvs, l, rfl, .inl (ha H2 (b.trans b2)), hk, fun c hc t ht => hkey c hc H2 t ht, hs, fun ys r hy hr => k r ys _ (b2.free hr) (b2.trans (.new b2.j' hr)) upd_same (hy.mono (Sys.T.new (S := S) b2.j' hr).tups).isL⟩
/-! lists put together, cut -/
theorem gl_cat (ha : GvL S ta σ H os) (hb : GvL S tb σ H ps) (hl : os.length + ps.length ≤ 100000) : GvL S (tOp rCat ta tb) σ H (os ++ ps) := fun H1 a Q k =>
  ha H1 a _ fun p xs H2 hp a2 he hxs => hb H2 (a.trans a2) _ fun q ys H3 hq a3 hf hys => by
    have n1 := S.notM a2.j hp
    have he3 := a3.k _ _ n1 he
    refine ⟨p, q, xs, ys, rfl, rfl, he3, hf, small (by rw [hxs.length, hys.length]; exact hl), fun r hr => ?_⟩
    have nn := Sys.T.new (S := S) (o := .lst (xs ++ ys)) a3.j' hr
    exact k r _ _ (a2.free (a3.free hr)) ((a2.trans a3).trans nn) upd_same (((hxs.to a3).to nn).append (hys.to nn))
theorem gl_slL {n : Nat} (h : GvL S te σ H os) (hn : Gv S tb σ H (.val (.int (n : Int)))) (hl : n ≤ os.length) : GvL S (tSl (rSlL K) te tNoPart (tPart tb)) σ H (os.take n) := fun H1 a Q k =>
  h H1 a _ fun p xs H2 hp a2 he hxs => hn H2 (a.trans a2) _ fun y H3 a3 hy => by
    cases hy
    have he3 := a3.k _ _ (S.notM a2.j hp) he
    refine ⟨(n : Int), rfl, p, xs, rfl, SqL.of he3, fun r hr => ?_⟩
    rw [cut_take (by rw [hxs.length]; exact hl)]
    have nn := Sys.T.new (S := S) (o := .lst (xs.take n)) a3.j' hr
    exact k r _ _ (a2.free (a3.free hr)) ((a2.trans a3).trans nn) upd_same (((hxs.to a3).to nn).take n)
end
end Ed

set_option maxHeartbeats 1000000
/-! EdPe: what the defs are told of the text; a def's promise as one bundle; bodies that return. -/
namespace Ed
open PySem PySem.Spec PyProof.Rows L2
/-- the built-ins are the built-ins, the constants the constants -/
structure Tx (mg : Str → Option Value) : Prop where
  isinstance : mg "isinstance" = none
  bool : mg "bool" = none
  int : mg "int" = none
  tuple : mg "tuple" = none
  all : mg "all" = none
  len : mg "len" = none
  range : mg "range" = none
  sorted : mg "sorted" = none
  set : mg "set" = none
  zip : mg "zip" = none
  enumerate : mg "enumerate" = none
  str : mg "str" = none
  max : mg "max" = none
  min : mg "min" = none
  list : mg "list" = none
  LETTERS : ∃ t, mg "LETTERS" = some (.str "abcdefghijklmnopqrstuvwxyz" t)
  FIGURES : ∃ t, mg "FIGURES" = some (.str "0123456789" t)
  MOST_IN_NAME : ∃ t, mg "MOST_IN_NAME" = some (.int 12 t)
  MOST_SIZES : ∃ t, mg "MOST_SIZES" = some (.int 12 t)
  LEAST_SIZE : ∃ t, mg "LEAST_SIZE" = some (.int 2 t)
  MOST_STATES : ∃ t, mg "MOST_STATES" = some (.int 12 t)
  MOST_FIELDS : ∃ t, mg "MOST_FIELDS" = some (.int 6 t)
  MOST_EDITS_lotwork : ∃ t, mg "MOST_EDITS_lotwork" = some (.int 400 t)
  MOST_EDITS_replicas : ∃ t, mg "MOST_EDITS_replicas" = some (.int 400 t)
/-- a def of the module, as it stands -/
structure DfD (K : PySem.W.Frag) (mg : Str → Option Value) (x : Str) (st : Stmt) : Prop where
  ex : ∃ (f : Addr) (fd : FuncData), mg x = some (.ref f) ∧ FunD K x x (defArgs st) (defBody st) (defScope st) [] [] f fd
/-- a method of the class at C -/
structure DfM (K : PySem.W.Frag) (C : Addr) (m q : Str) (st : Stmt) : Prop where
  ex : ∃ (f : Addr) (fd : FuncData), Meth K C m f ∧ FunD K m q (defArgs st) (defBody st) (defScope st) [] [] f fd
/-- a class that is made -/
structure DfC (K : PySem.W.Frag) (mg : Str → Option Value) (x q : Str) (C : Addr) (st : Stmt) : Prop where
  ex : ∃ (f : Addr) (fd : FuncData), Mk K C f ∧ mg x = some (.ref C) ∧ FunD K "__init__" q (defArgs st) (defBody st) (defScope st) [] [] f fd
section
variable {P : Program} {w : World} {K : PySem.W.Frag} {mg : Str → Option Value} {base : Heap} {X : Cx}
/-- a def keeps its promise, may be called -/
structure Gd (P : Program) (w : World) (K : PySem.W.Frag) (mg : Str → Option Value) (base : Heap) (x : Str) (k : Nat) (sp : Sp) : Prop where
  ex : ∃ (f : Addr) (fd : FuncData) (ps : List Str), mg x = some (.ref f) ∧ PySem.W.keepIn K (.ref f) = true ∧ Binds K fd ps [] ∧ FnOk P w K mg base CX0 k f fd ps sp
structure Md (P : Program) (w : World) (K : PySem.W.Frag) (mg : Str → Option Value) (base : Heap) (C : Addr) (m : Str) (k : Nat) (sp : Sp) : Prop where
  ex : ∃ (f : Addr) (fd : FuncData) (ps : List Str), Cls K C ∧ Meth K C m f ∧ Binds K fd ps [] ∧ FnOk P w K mg base CX0 k f fd ps sp
structure Mc (P : Program) (w : World) (K : PySem.W.Frag) (mg : Str → Option Value) (base : Heap) (x : Str) (C : Addr) (k : Nat) (sp : Sp) : Prop where
  ex : ∃ (f : Addr) (fd : FuncData) (ps : List Str), Mk K C f ∧ mg x = some (.ref C) ∧ Binds K fd ps [] ∧ FnOk P w K mg base CX0 k f fd ps sp
theorem pe_gd {x : Str} {k j : Nat} {sp : Sp} {e : Expr} {es : List Expr} {t : TA} {p pos : Pos} (G : Gd X.prog X.w X.K X.mg X.base x k sp) (hr : Room j X.A) (ha : PA X (e :: es) t) (hk : k ≤ j := by decide) (hg : Gl X x := by rfl)
    (hdb : (x == ("__debug__" : Str)) = false := by decide) (he : starEach (e :: es) X.env = (false, eval e X.env) :: starEach es X.env := by rfl) (hpl : (backTo pos (starEach es X.env)).any (·.1) = false := by rfl) :
    PE X (.Call (.Name x p) (e :: es) [] pos) (tCall sp [] E0 t) := by
  obtain ⟨f, fd, ps, h1, h2, h3, h4⟩ := G.ex
  exact pe_call h4 (hr.mono hk) hg h1 h2 h3 .nil pass0 ha hdb he hpl
theorem pe_md {C : Addr} {m : Str} {k j : Nat} {sp : Sp} {o e : Expr} {es : List Expr} {to : TE} {t : TA} {apos pos : Pos} {pl : Sem Bool} (G : Md X.prog X.w X.K X.mg X.base C m k sp) (hr : Room j X.A) (ho : PE X o to) (ha : PA X (e :: es) t) (hk : k ≤ j := by decide)
    (hst : starEach (e :: es) X.env = (false, eval e X.env) :: starEach es X.env := by rfl) (hpl : (backTo pos (starEach es X.env)).any (·.1) = false := by rfl)
    (ht : eval (.Call (.Attribute o m apos) (e :: es) [] pos) X.env = (do
      let ov ← eval o X.env
      standAt apos.atName
      let (f, first) ← holding [ov] (getMethod ov m pl)
      callWith pos f first (backTo pos (starEach (e :: es) X.env)) (backToKw pos (keywordEach [] X.env))) := by rfl) :
    PE X (.Call (.Attribute o m apos) (e :: es) [] pos) (tMeth C m sp [] E0 to t) := by
  obtain ⟨f, fd, ps, h1, h2, h3, h4⟩ := G.ex
  exact pe_meth ho h1 h2 h4 (hr.mono hk) h3 .nil pass0 ha hst hpl ht
theorem pe_md0 {C : Addr} {m : Str} {k j : Nat} {sp : Sp} {o : Expr} {to : TE} {apos pos : Pos} {pl : Sem Bool} (G : Md X.prog X.w X.K X.mg X.base C m k sp) (hr : Room j X.A) (ho : PE X o to) (hk : k ≤ j := by decide)
    (ht : eval (.Call (.Attribute o m apos) [] [] pos) X.env = (do
      let ov ← eval o X.env
      standAt apos.atName
      let (f, first) ← holding [ov] (getMethod ov m pl)
      callWith pos f first (backTo pos (starEach [] X.env)) (backToKw pos (keywordEach [] X.env))) := by rfl) :
    PE X (.Call (.Attribute o m apos) [] [] pos) (tMeth C m sp [] E0 to tNil) := by
  obtain ⟨f, fd, ps, h1, h2, h3, h4⟩ := G.ex
  exact pe_meth0 ho h1 h2 h4 (hr.mono hk) h3 .nil pass0 ht
theorem pe_mc {x : Str} {C : Addr} {k j : Nat} {sp : Sp} {e : Expr} {es : List Expr} {t : TA} {p pos : Pos} (G : Mc X.prog X.w X.K X.mg X.base x C k sp) (hr : Room j X.A) (ha : PA X (e :: es) t) (hk : k + 1 ≤ j := by decide) (hg : Gl X x := by rfl)
    (hdb : (x == ("__debug__" : Str)) = false := by decide) (he : starEach (e :: es) X.env = (false, eval e X.env) :: starEach es X.env := by rfl) (hpl : (backTo pos (starEach es X.env)).any (·.1) = false := by rfl) :
    PE X (.Call (.Name x p) (e :: es) [] pos) (tMake C sp [] E0 t) := by
  obtain ⟨f, fd, ps, h1, h2, h3, h4⟩ := G.ex
  exact pe_make h1 h4 (hr.mono hk) hg h2 h3 .nil pass0 ha hdb he hpl
theorem pe_gi {x : Str} {i : Int} {pos : Pos} (h : ∃ t, X.mg x = some (.int i t)) (hg : Gl X x := by rfl) (hd : (x == ("__debug__" : Str)) = false := by decide) : PE X (.Name x pos) (tC (.int i)) := by
  obtain ⟨t, h⟩ := h
  exact pe_glob hg h ⟨t, rfl⟩ hd
theorem pe_gs {x z : Str} {pos : Pos} (h : ∃ t, X.mg x = some (.str z t)) (hg : Gl X x := by rfl) (hd : (x == ("__debug__" : Str)) = false := by decide) : PE X (.Name x pos) (tC (.str z)) := by
  obtain ⟨t, h⟩ := h
  exact pe_glob hg h ⟨t, rfl⟩ hd
theorem pe_ty {x : Str} {n : String} {pos : Pos} (hm : X.mg x = none) (hv : bootBuiltins x = some (.type n)) (hg : Gl X x := by rfl) (hn : x ≠ "__name__" := by decide) (hd : (x == ("__debug__" : Str)) = false := by decide) : PE X (.Name x pos) (tC (.ty n)) :=
  pe_bltn hg hm hv rfl hn hd
theorem pe_cb {x : Str} {id : String} {r : List V → Hp → VK → Prop} {e : Expr} {es : List Expr} {t : TA} {p pos : Pos} (hc : CallR X (.builtin id) r) (hm : X.mg x = none) (hv : bootBuiltins x = some (.builtin id)) (ha : PA X (e :: es) t) (hg : Gl X x := by rfl) (hn : x ≠ "__name__" := by decide) (hdb : (x == ("__debug__" : Str)) = false := by decide)
    (he : starEach (e :: es) X.env = (false, eval e X.env) :: starEach es X.env := by rfl) (hpl : (backTo pos (starEach es X.env)).any (·.1) = false := by rfl) : PE X (.Call (.Name x p) (e :: es) [] pos) (tCB r t) := pe_callB hc hg hm hv ha hn hdb he hpl
theorem pe_ct {x : Str} {id : String} {r : List V → Hp → VK → Prop} {e : Expr} {es : List Expr} {t : TA} {p pos : Pos} (hc : CallR X (.type id) r) (hm : X.mg x = none) (hv : bootBuiltins x = some (.type id)) (ha : PA X (e :: es) t) (hg : Gl X x := by rfl) (hn : x ≠ "__name__" := by decide) (hdb : (x == ("__debug__" : Str)) = false := by decide)
    (he : starEach (e :: es) X.env = (false, eval e X.env) :: starEach es X.env := by rfl) (hpl : (backTo pos (starEach es X.env)).any (·.1) = false := by rfl) : PE X (.Call (.Name x p) (e :: es) [] pos) (tCB r t) := pe_callTy hc hg hm hv ha hn hdb he hpl
theorem hu65 {A : Around} {k : Nat} (hr : Room k A) : A.units + 65 < cLine := by
  have := hr.un
  omega
theorem pt_pw {e : Expr} {t : TT} (h : PW X e t) : PT X e t := h.pt
theorem pgn (i : Nat) {x : Str} {pos : Pos} (hN : X.N.Nodup) (hi : X.N[i]? = some x := by rfl) (hx : Loc X.env.scope x := by first | exact .inl rfl | exact .inr rfl) (hf : X.fn x = true ∨ X.env.scope.names.lookup x = some .local := by first | exact .inl rfl | exact .inr rfl) : PG X (.Name x pos) (gName i) := pg_name hN hi hx hf
theorem psn (i : Nat) {x : Str} {e : Expr} {te : TE} {pos pos' : Pos} (hN : X.N.Nodup) (he : PE X e te) (hi : X.N[i]? = some x := by rfl) (hx : Loc X.env.scope x := by first | exact .inl rfl | exact .inr rfl) (hs : swapsWith e (some (.Name x pos')) pos.line X.env = pure false := by rfl)
    (hf : X.fn x = true ∨ X.env.scope.names.lookup x = some .local := by first | exact .inl rfl | exact .inr rfl) : PS X (.Assign [.Name x pos'] e pos) (tAsg te (gName i)) := ps_set hN hi hx he hs hf
/-- THE RULE for a def of the module -/
theorem gd_of {x : Str} {st : Stmt} {N ps : List Str} {k : Nat} {sp : Sp} (F : DfD K mg x st) (S : FnScope N ps (defScope st))
    (hb : ∀ (kV doc pm : Value) (an : Option Addr) (cdv ct : Value) (us : List Value), us.length = ps.length → bindArgs (PySem.W.fnOf x x (defArgs st) (defBody st) (defScope st) .none kV doc pm an cdv ct) ⟨us, []⟩ = pure (ps.zip us))
    (len : ∀ vs H Q E, sp vs H Q E → vs.length = ps.length)
    (hbody : ∀ (f : Addr) (cdv : Value) (A : Around) (outer : List Env) (s : Shared) (H : Hp) (vs : List V) (Q : VK) (E : XK), Room k (A.deeper (envOfC x (defScope st) s.heap.objs.size f cdv)) → sp vs H Q E →
      ∃ t, PSs (cxOf CX0 P w K mg base N x (defScope st) f cdv A outer s H E).nox (defBody st) t ∧ t { nx := fun _ H' => Q .non H', rt := Q } (start N vs) H) : Gd P w K mg base x (k + 1) sp := by
  obtain ⟨f, fd, h1, F⟩ := F.ex
  refine ⟨f, fd, ps, h1, F.kp, F.bindsN hb, F.ok S len fun cdv A outer s H vs Q E hr hsp => ?_⟩
  obtain ⟨t, h, q⟩ := hbody f cdv A outer s H vs Q E hr hsp
  exact ⟨t, h.nox, q⟩
theorem md_of {C : Addr} {m qn : Str} {st : Stmt} {N ps : List Str} {k : Nat} {sp : Sp} (c : Cls K C) (F : DfM K C m qn st) (S : FnScope N ps (defScope st))
    (hb : ∀ (kV doc pm : Value) (an : Option Addr) (cdv ct : Value) (us : List Value), us.length = ps.length → bindArgs (PySem.W.fnOf m qn (defArgs st) (defBody st) (defScope st) .none kV doc pm an cdv ct) ⟨us, []⟩ = pure (ps.zip us))
    (len : ∀ vs H Q E, sp vs H Q E → vs.length = ps.length)
    (hbody : ∀ (f : Addr) (cdv : Value) (A : Around) (outer : List Env) (s : Shared) (H : Hp) (vs : List V) (Q : VK) (E : XK), Room k (A.deeper (envOfC qn (defScope st) s.heap.objs.size f cdv)) → sp vs H Q E →
      ∃ t, PSs (cxOf CX0 P w K mg base N qn (defScope st) f cdv A outer s H E).nox (defBody st) t ∧ t { nx := fun _ H' => Q .non H', rt := Q } (start N vs) H) : Md P w K mg base C m (k + 1) sp := by
  obtain ⟨f, fd, h1, F⟩ := F.ex
  refine ⟨f, fd, ps, c, h1, F.bindsN hb, F.ok S len fun cdv A outer s H vs Q E hr hsp => ?_⟩
  obtain ⟨t, h, q⟩ := hbody f cdv A outer s H vs Q E hr hsp
  exact ⟨t, h.nox, q⟩
theorem mc_of {C : Addr} {x qn : Str} {st : Stmt} {N ps : List Str} {k : Nat} {sp : Sp} (F : DfC K mg x qn C st) (S : FnScope N ps (defScope st))
    (hb : ∀ (kV doc pm : Value) (an : Option Addr) (cdv ct : Value) (us : List Value), us.length = ps.length → bindArgs (PySem.W.fnOf "__init__" qn (defArgs st) (defBody st) (defScope st) .none kV doc pm an cdv ct) ⟨us, []⟩ = pure (ps.zip us))
    (len : ∀ vs H Q E, sp vs H Q E → vs.length = ps.length)
    (hbody : ∀ (f : Addr) (cdv : Value) (A : Around) (outer : List Env) (s : Shared) (H : Hp) (vs : List V) (Q : VK) (E : XK), Room k (A.deeper (envOfC qn (defScope st) s.heap.objs.size f cdv)) → sp vs H Q E →
      ∃ t, PSs (cxOf CX0 P w K mg base N qn (defScope st) f cdv A outer s H E).nox (defBody st) t ∧ t { nx := fun _ H' => Q .non H', rt := Q } (start N vs) H) : Mc P w K mg base x C (k + 1) sp := by
  obtain ⟨f, fd, h1, h2, F⟩ := F.ex
  refine ⟨f, fd, ps, h1, h2, F.bindsN hb, F.ok S len fun cdv A outer s H vs Q E hr hsp => ?_⟩
  obtain ⟨t, h, q⟩ := hbody f cdv A outer s H vs Q E hr hsp
  exact ⟨t, h.nox, q⟩
theorem Gd.imp {x : Str} {k : Nat} {sp sp' : Sp} (G : Gd P w K mg base x k sp) (h : ∀ vs H Q E, sp' vs H Q E → sp vs H Q E) : Gd P w K mg base x k sp' := by
  obtain ⟨f, fd, ps, h1, h2, h3, h4⟩ := G.ex
  exact ⟨f, fd, ps, h1, h2, h3, h4.imp h⟩
end
/-! ### bodies that return -/
section
variable {S : Sys} {H H' H1 H2 : Hp} {σ : L2.St} {te ta tb tc tl : TE} {tt : TT} {tr : TA} {o p q : Ob} {os ps : List Ob} {b c : Bool} {v x y z : V} {K : PySem.W.Frag} {d e : PyData} {ds es : List PyData} {ts tu tw : TS} {α : Type} {l : List α} {Y : α → V → Hp → Prop} {wi : TI}
/-- returns -/
def Gr (S : Sys) (ts : TS) (σ : L2.St) (H : Hp) (o : Ob) : Prop := ∀ H1, S.T H H1 → ∀ D : Ends, (∀ v H2, S.T H1 H2 → Is H2 v o → D.rt v H2) → ts D σ H1
/-- returns a new list -/
def GrL (S : Sys) (ts : TS) (σ : L2.St) (H : Hp) (os : List Ob) : Prop := ∀ H1, S.T H H1 → ∀ D : Ends, (∀ p xs H2, H1 p = none → S.T H1 H2 → H2 p = some (.lst xs) → IsL H2 xs os → D.rt (.ref p) H2) → ts D σ H1
/-- goes on -/
def Gn (S : Sys) (ts : TS) (σ : L2.St) (H : Hp) : Prop := ∀ H1, S.T H H1 → ∀ D : Ends, (∀ H2, S.T H1 H2 → D.nx σ H2) → ts D σ H1
theorem Gr.mono (h : Gr S ts σ H o) (a : S.T H H1) : Gr S ts σ H1 o := fun H2 b => h H2 (a.trans b)
theorem Gn.mono (h : Gn S ts σ H) (a : S.T H H1) : Gn S ts σ H1 := fun H2 b => h H2 (a.trans b)
theorem Gr.cast (h : Gr S ts σ H o) (e : o = p) : Gr S ts σ H p := e ▸ h
theorem gr_ret (h : Gv S te σ H o) : Gr S (tRet te) σ H o := fun H1 a D k => h H1 a D.rt k
theorem grl_ret (h : GvL S te σ H os) : GrL S (tRet te) σ H os := fun H1 a D k => h H1 a D.rt k
theorem gr_if (h : GvT S tt σ H b) (h1 : b = true → Gr S ts σ H o) (h2 : b = false → Gr S tu σ H o) : Gr S (tIfS tt ts tu) σ H o := fun H1 a D k => h H1 a _ fun H2 a2 => by
  cases b with
  | true => exact h1 rfl H2 (a.trans a2) D fun v H3 a3 e => k v H3 (a2.trans a3) e
  | false => exact h2 rfl H2 (a.trans a2) D fun v H3 a3 e => k v H3 (a2.trans a3) e
theorem gn_next : Gn S tNext σ H := fun H1 a D k => k H1 a.fin
theorem gn_if (h : GvT S tt σ H b) (h1 : b = true → Gn S ts σ H) (h2 : b = false → Gn S tu σ H) : Gn S (tIfS tt ts tu) σ H := fun H1 a D k => h H1 a _ fun H2 a2 => by
  cases b with
  | true => exact h1 rfl H2 (a.trans a2) D fun H3 a3 => k H3 (a2.trans a3)
  | false => exact h2 rfl H2 (a.trans a2) D fun H3 a3 => k H3 (a2.trans a3)
theorem gn_drop (h : Gv S te σ H o) : Gn S (tDrop te) σ H := fun H1 a D k => h H1 a _ fun v H2 a2 _ => k H2 a2
theorem gn_seq (h : Gn S ts σ H) (h2 : Gn S tu σ H) : Gn S (tSeq ts tu) σ H := fun H1 a D k => h H1 a _ fun H2 a2 => h2 H2 (a.trans a2) D fun H3 a3 => k H3 (a2.trans a3)
theorem gr_seq (h : Gn S ts σ H) (h2 : Gr S tu σ H o) : Gr S (tSeq ts tu) σ H o := fun H1 a D k => h H1 a _ fun H2 a2 => h2 H2 (a.trans a2) D fun v H3 a3 e => k v H3 (a2.trans a3) e
theorem grl_seq (h : Gn S ts σ H) (h2 : GrL S tu σ H os) : GrL S (tSeq ts tu) σ H os := fun H1 a D k => h H1 a _ fun H2 a2 => h2 H2 (a.trans a2) D fun p xs H3 hp a3 e f => k p xs H3 (a2.free hp) (a2.trans a3) e f
/-- returns in the first of two -/
theorem gr_seqR (h : Gr S ts σ H o) : Gr S (tSeq ts tu) σ H o := fun H1 a D k => h H1 a _ k
/-- if c: return ..; then more -/
theorem gr_ifR (h : GvT S tt σ H b) (h1 : b = true → Gr S ts σ H o) (h2 : b = false → Gn S tu σ H) (h3 : b = false → Gr S tw σ H o) : Gr S (tSeq (tIfS tt ts tu) tw) σ H o := by
  cases b with
  | true => exact gr_seqR (gr_if h h1 fun e => nomatch e)
  | false => exact gr_seq (gn_if h (fun e => nomatch e) h2) (h3 rfl)
theorem gr_set {i : Nat} (h : Gv S te σ H o) (h2 : ∀ v H1, S.T H H1 → Is H1 v o → Gr S tu (σ.set i (some v)) H1 q) : Gr S (tSeq (tAsg te (gName i)) tu) σ H q := fun H1 a D k =>
  h H1 a _ fun v H2 a2 hv => h2 v H2 (a.trans a2) hv H2 a2.fin D fun u H3 a3 e => k u H3 (a2.trans a3) e
theorem gr_setL {i : Nat} (h : GvL S te σ H os) (h2 : ∀ p xs H1, H p = none → S.T H H1 → H1 p = some (.lst xs) → IsL H1 xs os → Gr S tu (σ.set i (some (.ref p))) H1 q) : Gr S (tSeq (tAsg te (gName i)) tu) σ H q := fun H1 a D k =>
  h H1 a _ fun p xs H2 hp a2 he hx => h2 p xs H2 (a.free hp) (a.trans a2) he hx H2 a2.fin D fun u H3 a3 e => k u H3 (a2.trans a3) e
theorem grl_setL {i : Nat} (h : GvL S te σ H os) (h2 : ∀ p xs H1, H p = none → S.T H H1 → H1 p = some (.lst xs) → IsL H1 xs os → GrL S tu (σ.set i (some (.ref p))) H1 ps) : GrL S (tSeq (tAsg te (gName i)) tu) σ H ps := fun H1 a D k =>
  h H1 a _ fun p xs H2 hp a2 he hx => h2 p xs H2 (a.free hp) (a.trans a2) he hx H2 a2.fin D fun u ys H3 hu a3 e f => k u ys H3 (a2.free hu) (a2.trans a3) e f
/-! ### several values -/
theorem isL1 {vs : List V} (h : IsL H vs [o]) : ∃ v, vs = [v] ∧ Is H v o := by
  cases h with
  | cons h t => cases t; exact ⟨_, rfl, h⟩
theorem isL2 {vs : List V} (h : IsL H vs [o, p]) : ∃ v u, vs = [v, u] ∧ Is H v o ∧ Is H u p := by
  cases h with
  | cons h t =>
    obtain ⟨u, rfl, hu⟩ := isL1 t
    exact ⟨_, _, rfl, h, hu⟩
theorem isL3 {vs : List V} {r : Ob} (h : IsL H vs [o, p, r]) : ∃ v u w, vs = [v, u, w] ∧ Is H v o ∧ Is H u p ∧ Is H w r := by
  cases h with
  | cons h t =>
    obtain ⟨u, w, rfl, hu, hw⟩ := isL2 t
    exact ⟨_, _, _, rfl, h, hu, hw⟩
theorem isL4 {vs : List V} {r r' : Ob} (h : IsL H vs [o, p, r, r']) : ∃ v u w w', vs = [v, u, w, w'] ∧ Is H v o ∧ Is H u p ∧ Is H w r ∧ Is H w' r' := by
  cases h with
  | cons h t =>
    obtain ⟨u, w, w', rfl, hu, hw, hz⟩ := isL3 t
    exact ⟨_, _, _, _, rfl, h, hu, hw, hz⟩
end
section
variable {P : Program} {w : World} {K : PySem.W.Frag} {mg : Str → Option Value} {base : Heap}
/-- a def that only computes -/
theorem gd_pure {ι : Type} {args : ι → List Ob} {pre : ι → Prop} {res : ι → Ob} {x : Str} {st : Stmt} {N ps : List Str} {k : Nat} (F : DfD K mg x st) (S : FnScope N ps (defScope st))
    (hb : ∀ (kV doc pm : Value) (an : Option Addr) (cdv ct : Value) (us : List Value), us.length = ps.length → bindArgs (PySem.W.fnOf x x (defArgs st) (defBody st) (defScope st) .none kV doc pm an cdv ct) ⟨us, []⟩ = pure (ps.zip us))
    (len : ∀ i, (args i).length = ps.length)
    (hbody : ∀ (f : Addr) (cdv : Value) (A : Around) (outer : List Env) (s : Shared) (H H0 : Hp) (E : XK) (vs : List V) (i : ι), Room k (A.deeper (envOfC x (defScope st) s.heap.objs.size f cdv)) → IsL H vs (args i) → pre i →
      ∃ t, PSs (cxOf CX0 P w K mg base N x (defScope st) f cdv A outer s H0 E).nox (defBody st) t ∧ Gr S0 t (start N vs) H (res i)) : Gd P w K mg base x (k + 1) (SpP args pre res) := by
  refine gd_of F S hb (fun vs H Q E h => by obtain ⟨i, h, _⟩ := h; rw [h.length, len i]) fun f cdv A outer s H vs Q E hr ⟨i, h1, h2, h3⟩ => ?_
  obtain ⟨t, ht, g⟩ := hbody f cdv A outer s H H E vs i hr h1 h2
  exact ⟨t, ht, g H S0.r _ fun v H2 a hv => h3 v H2 (S0.same a) hv⟩
theorem gd_list {ι : Type} {args : ι → List Ob} {pre : ι → Prop} {res : ι → List Ob} {x : Str} {st : Stmt} {N ps : List Str} {k : Nat} (F : DfD K mg x st) (S : FnScope N ps (defScope st))
    (hb : ∀ (kV doc pm : Value) (an : Option Addr) (cdv ct : Value) (us : List Value), us.length = ps.length → bindArgs (PySem.W.fnOf x x (defArgs st) (defBody st) (defScope st) .none kV doc pm an cdv ct) ⟨us, []⟩ = pure (ps.zip us))
    (len : ∀ i, (args i).length = ps.length)
    (hbody : ∀ (f : Addr) (cdv : Value) (A : Around) (outer : List Env) (s : Shared) (H H0 : Hp) (E : XK) (vs : List V) (i : ι), Room k (A.deeper (envOfC x (defScope st) s.heap.objs.size f cdv)) → IsL H vs (args i) → pre i →
      ∃ t, PSs (cxOf CX0 P w K mg base N x (defScope st) f cdv A outer s H0 E).nox (defBody st) t ∧ GrL S0 t (start N vs) H (res i)) : Gd P w K mg base x (k + 1) (SpL args pre res) := by
  refine gd_of F S hb (fun vs H Q E h => by obtain ⟨i, h, _⟩ := h; rw [h.length, len i]) fun f cdv A outer s H vs Q E hr ⟨i, h1, h2, h3⟩ => ?_
  obtain ⟨t, ht, g⟩ := hbody f cdv A outer s H H E vs i hr h1 h2
  exact ⟨t, ht, g H S0.r _ fun p xs H2 hp a he hv => h3 p xs H2 hp (S0.same a) he hv⟩
end
end Ed

set_option maxHeartbeats 1000000
/-! EdEnc: the data of this program; small helpers. -/
namespace Ed
open PySem PySem.Spec PyProof.Rows L2
def tupI (l : List Int) : PyData := .tuple (l.map .int)
/-- sizes and hands -/
abbrev Kd := List Int × List (List Int)
def kindD (k : Kd) : PyData := .tuple [tupI k.1, .list (k.2.map tupI)]
def fieldsD (fs : List Kd) : PyData := .tuple (fs.map kindD)
/-- small numbers -/
def natD (l : List Nat) : PyData := .tuple (l.map fun n : Nat => .int (n : Int))
def amD (a : List (List Int)) : PyData := .tuple (a.map tupI)
def oD : Option Int → PyData
  | none => .none
  | some i => .int i
def recD (r : List (Option Int)) : PyData := .tuple (r.map oD)
/-- a hand of such sizes -/
def Ok1 (s h : List Int) : Prop := h.length = s.length ∧ ∀ p ∈ h.zip s, 0 ≤ p.1 ∧ p.1 < p.2
structure OkK (k : Kd) : Prop where
  sl : k.1.length ≤ 12
  s2 : ∀ s ∈ k.1, 2 ≤ s
  h1 : 1 ≤ k.2.length
  hl : k.2.length ≤ 12
  hh : ∀ h ∈ k.2, Ok1 k.1 h
  nd : k.2.Nodup
structure OkF (fs : List Kd) : Prop where
  l1 : 1 ≤ fs.length
  l6 : fs.length ≤ 6
  k : ∀ k ∈ fs, OkK k
def OkR (fs : List Kd) (r : List Int) : Prop := r.length = fs.length ∧ ∀ p ∈ fs.zip r, 0 ≤ p.2 ∧ p.2 < p.1.2.length
def OkA (fs : List Kd) (a : List (List Int)) : Prop := a.length = fs.length ∧ ∀ p ∈ fs.zip a, Ok1 p.1.1 p.2
/-- a hand moved by a step; the step between two hands -/
def put (s h m : List Int) : List Int := (h.zip (m.zip s)).map fun p => (p.1 + p.2.1).fmod p.2.2
def stp (s a b : List Int) : List Int := (a.zip (b.zip s)).map fun p => (p.2.1 - p.1).fmod p.2.2
def kst (k : Kd) (h : List Int) : Option Int := if h ∈ k.2 then some ((@List.idxOf _ instBEqOfDecidableEq h k.2 : Nat) : Int) else none
def amOf (fs : List Kd) (r : List Int) : List (List Int) := (fs.zip r).map fun p => p.1.2.getD p.2.toNat []
def stps (fs : List Kd) (a b : List (List Int)) : List (List Int) := (fs.zip (a.zip b)).map fun p => stp p.1.1 p.2.1 p.2.2
def puts (fs : List Kd) (a m : List (List Int)) : List (List Int) := (fs.zip (a.zip m)).map fun p => put p.1.1 p.2.1 p.2.2
def recAt (fs : List Kd) (a : List (List Int)) : List (Option Int) := (fs.zip a).map fun p => kst p.1 p.2

section
variable {S : Sys} {H H' H1 H2 : Hp} {σ : L2.St} {te ta tb tc tl : TE} {tt : TT} {tr : TA} {o p q : Ob} {os ps : List Ob} {b c : Bool} {v x y z : V} {K : PySem.W.Frag} {d e : PyData} {ds es : List PyData}
variable {α : Type} {enc : α → PyData} {l : List α}
theorem gv_allT (h : GvL S te σ H (l.map fun _ => Ob.val (.bl true))) : Gv S (tCB (rAll K) (tCons te tNil)) σ H (.val (.bl true)) :=
  (gv_all (bs := l.map fun _ => true) (h.cast (by rw [List.map_map]; rfl))).cast (by simp)
theorem gv_all' {f : α → Bool} (h : GvL S te σ H (l.map fun z => Ob.val (.bl (f z)))) : Gv S (tCB (rAll K) (tCons te tNil)) σ H (.val (.bl (l.all f))) :=
  (gv_all (bs := l.map f) (h.cast (by rw [List.map_map]; rfl))).cast (by simp)
theorem gv_ixT {dd : PyData} {j : Int} {i : Nat} (ha : Gv S ta σ H (.dat dd)) (hb : Gv S tb σ H (.val (.int j))) (e : j = (i : Int)) (h : ds[i]? = some d) (w : Row dd ds := by exact .inl rfl) : Gv S (tOp (rIxT K) ta tb) σ H (.dat d) :=
  gv_op ha (e ▸ hb) (rg_ix h w)
theorem Gv.bl_cast {b c : Bool} (h : Gv S te σ H (.val (.bl b))) (e : b = c) : Gv S te σ H (.val (.bl c)) := e ▸ h
theorem Gv.int_cast {i j : Int} (h : Gv S te σ H (.val (.int i))) (e : i = j) : Gv S te σ H (.val (.int j)) := e ▸ h
theorem rg_notN : RG S (fun x y H Q => y = .non ∧ Q (.bl (!decide (x = .non))) H) (.val x) (.val .non) H (.val (.bl (!decide (x = .non)))) := fun H1 a u w hx hy Q k => by
  cases hx
  cases hy
  exact ⟨rfl, k _ H1 a.fin rfl⟩
theorem gv_vd {i : Nat} (h : σ[i]? = some (some v)) (hv : Rep H v d) : Gv S (tVar i) σ H (.dat d) := gv_var h hv
theorem gt_no (h : GvT S tt σ H true) : GvT S (tNot tt) σ H false := gt_not h
theorem gv_int {i : Int} : Gv S (tC (.int i)) σ H (.val (.int i)) := gv_cv
theorem gl_tupR {ds : List PyData} (h : GvL S te σ H (ds.map Ob.dat)) : Gv S (tCB (rTupOf K) (tCons te tNil)) σ H (.dat (.tuple ds)) := gv_tupleL h
/-- tuple([.. for ..]) of encoded things -/
theorem gv_tupE {f : α → PyData} (h : GvL S te σ H (l.map fun z => Ob.dat (f z))) : Gv S (tCB (rTupOf K) (tCons te tNil)) σ H (.dat (.tuple (l.map f))) :=
  gv_tupleL (h.cast (by rw [List.map_map]; rfl))
end
/-! bodies that end without a return; loops that change nothing but their names -/
section
variable {S : Sys} {H H' H1 H2 : Hp} {σ : L2.St} {te ta tb tc tl : TE} {tt : TT} {tr : TA} {o p q : Ob} {os ps : List Ob} {b c : Bool} {v x y z : V} {K : PySem.W.Frag} {ts tu tw : TS} {α : Type} {l : List α} {Y : α → V → Hp → Prop} {wi : TI} {g : TG}
def Gf (S : Sys) (ts : TS) (σ : L2.St) (H : Hp) : Prop := ∀ H1, S.T H H1 → ∀ D : Ends, (∀ σ' H2, S.T H1 H2 → D.nx σ' H2) → ts D σ H1
theorem Gn.gf (h : Gn S ts σ H) : Gf S ts σ H := fun H1 a D k => h H1 a D fun H2 a2 => k σ H2 a2
theorem gf_seq (h : Gn S ts σ H) (h2 : Gf S tu σ H) : Gf S (tSeq ts tu) σ H := fun H1 a D k => h H1 a _ fun H2 a2 => h2 H2 (a.trans a2) D fun σ' H3 a3 => k σ' H3 (a2.trans a3)
theorem loop_step (hw : GvI S wi σ H fun J H1 => WkL S J l Y H1) (Pv : L2.St → Prop) (h0 : Pv σ)
    (turn : ∀ (i : Nat) z x σ' H', l[i]? = some z → S.T H H' → Pv σ' → Y z x H' → ∃ σ2, (∀ Q : L2.St → Hp → Prop, Q σ2 H' → g x σ' H' Q) ∧ Pv σ2 ∧ Gn S tu σ2 H') :
    ∀ H1, S.T H H1 → ∀ D : Ends, (∀ σ' H2, S.T H1 H2 → Pv σ' → D.nx σ' H2) → tFor wi g tu D σ H1 := fun H1 a D k =>
  gs_for (S := S) (D := D) (fun H2 a2 => hw H2 (a.trans a2)) a.j' (fun Hs i σ' H' => Pv σ' ∧ S.T Hs H') (fun H2 a2 => ⟨h0, a2.fin⟩) (fun H2 i σ' H' a2 q => q.2)
    (fun H2 i z x σ' H' H'' a2 hz ⟨q1, q2⟩ a3 s3 hy => by
      have aa := (a.trans a2).trans (q2.trans a3)
      obtain ⟨σ2, h1, h2, h3⟩ := turn i z x σ' H'' hz aa q1 hy
      exact h1 _ (h3 H'' aa.fin _ fun H3 a4 => ⟨h2, (q2.trans a3).trans a4⟩))
    fun H2 σ' H' a2 ⟨q1, q2⟩ => k σ' H' (a2.trans q2) q1
theorem gf_for (hw : GvI S wi σ H fun J H1 => WkL S J l Y H1) (Pv : L2.St → Prop) (h0 : Pv σ)
    (turn : ∀ (i : Nat) z x σ' H', l[i]? = some z → S.T H H' → Pv σ' → Y z x H' → ∃ σ2, (∀ Q : L2.St → Hp → Prop, Q σ2 H' → g x σ' H' Q) ∧ Pv σ2 ∧ Gn S tu σ2 H') : Gf S (tFor wi g tu) σ H := fun H1 a D k =>
  loop_step hw Pv h0 turn H1 a D fun σ' H2 a2 _ => k σ' H2 a2
theorem gf_forS (hw : GvI S wi σ H fun J H1 => WkL S J l Y H1) (Pv : L2.St → Prop) (h0 : Pv σ)
    (turn : ∀ (i : Nat) z x σ' H', l[i]? = some z → S.T H H' → Pv σ' → Y z x H' → ∃ σ2, (∀ Q : L2.St → Hp → Prop, Q σ2 H' → g x σ' H' Q) ∧ Pv σ2 ∧ Gn S tu σ2 H')
    (next : ∀ σ' H', S.T H H' → Pv σ' → Gf S tw σ' H') : Gf S (tSeq (tFor wi g tu) tw) σ H := fun H1 a D k =>
  loop_step hw Pv h0 turn H1 a _ fun σ' H2 a2 q => next σ' H2 (a.trans a2) q H2 (a.trans a2).fin D fun σ'' H3 a3 => k σ'' H3 (a2.trans a3)
theorem gr_for (hw : GvI S wi σ H fun J H1 => WkL S J l Y H1) (Pv : L2.St → Prop) (h0 : Pv σ)
    (turn : ∀ (i : Nat) z x σ' H', l[i]? = some z → S.T H H' → Pv σ' → Y z x H' → ∃ σ2, (∀ Q : L2.St → Hp → Prop, Q σ2 H' → g x σ' H' Q) ∧ Pv σ2 ∧ Gn S tu σ2 H')
    (next : ∀ σ' H', S.T H H' → Pv σ' → Gr S tw σ' H' o) : Gr S (tSeq (tFor wi g tu) tw) σ H o := fun H1 a D k =>
  loop_step hw Pv h0 turn H1 a _ fun σ' H2 a2 q => next σ' H2 (a.trans a2) q H2 (a.trans a2).fin D fun v H3 a3 e => k v H3 (a2.trans a3) e
theorem gn_ifF (h : GvT S tt σ H false) (h2 : Gn S tu σ H) : Gn S (tIfS tt ts tu) σ H := gn_if h (fun e => nomatch e) fun _ => h2
/-- if c: (raise or return), not taken -/
theorem gn_skip (h : GvT S tt σ H false) : Gn S (tIfS tt ts tNext) σ H := gn_ifF h gn_next
theorem gr_skip (h : GvT S tt σ H false) (h2 : Gr S tw σ H o) : Gr S (tSeq (tIfS tt ts tNext) tw) σ H o := gr_seq (gn_skip h) h2
end
section
variable {P : Program} {w : World} {K : PySem.W.Frag} {mg : Str → Option Value} {base : Heap}
theorem gd_none {ι : Type} {args : ι → List Ob} {pre : ι → Prop} {x : Str} {st : Stmt} {N ps : List Str} {k : Nat} (F : DfD K mg x st) (S : FnScope N ps (defScope st))
    (hb : ∀ (kV doc pm : Value) (an : Option Addr) (cdv ct : Value) (us : List Value), us.length = ps.length → bindArgs (PySem.W.fnOf x x (defArgs st) (defBody st) (defScope st) .none kV doc pm an cdv ct) ⟨us, []⟩ = pure (ps.zip us))
    (len : ∀ i, (args i).length = ps.length)
    (hbody : ∀ (f : Addr) (cdv : Value) (A : Around) (outer : List Env) (s : Shared) (H H0 : Hp) (E : XK) (vs : List V) (i : ι), Room k (A.deeper (envOfC x (defScope st) s.heap.objs.size f cdv)) → IsL H vs (args i) → pre i →
      ∃ t, PSs (cxOf CX0 P w K mg base N x (defScope st) f cdv A outer s H0 E).nox (defBody st) t ∧ Gf S0 t (L2.start N vs) H) : Gd P w K mg base x (k + 1) (SpP args pre fun _ => .val .non) := by
  refine gd_of F S hb (fun vs H Q E h => by obtain ⟨i, h, _⟩ := h; rw [h.length, len i]) fun f cdv A outer s H vs Q E hr ⟨i, h1, h2, h3⟩ => ?_
  obtain ⟨t, ht, g⟩ := hbody f cdv A outer s H H E vs i hr h1 h2
  exact ⟨t, ht, g H S0.r _ fun σ' H2 a => h3 .non H2 (S0.same a) rfl⟩
end
theorem pl_int {n : Nat} {i : Int} : pl n (.int i) = true := by cases n <;> rfl
theorem pl_tupI {n : Nat} {l : List Int} : pl (n + 1) (tupI l) = true := by
  simp only [tupI, pl, List.all_eq_true, List.mem_map]
  rintro x ⟨i, _, rfl⟩
  exact pl_int
theorem tupI_inj {a b : List Int} (h : tupI a = tupI b) : a = b := by
  unfold tupI at h
  exact (List.map_inj_right fun x y e => by cases e; rfl).mp (PyData.tuple.inj h)
theorem tupI_eq {a b : List Int} : tupI a = tupI b ↔ a = b := ⟨tupI_inj, fun e => e ▸ rfl⟩
theorem row_list {ds : List PyData} : Row (.list ds) ds := .inr rfl
theorem row_tup {ds : List PyData} : Row (.tuple ds) ds := .inl rfl
end Ed

set_option maxHeartbeats 1000000
/-! EdD1: numbers, kinds. -/
namespace Ed
open PySem PySem.Spec PyProof.Rows L2
section
variable {P : Program} {w : World} {K : PySem.W.Frag} {mg : Str → Option Value} {base : Heap}
abbrev sp_is_whole : Sp := SpP (ι := Int) (fun i => [.val (.int i)]) (fun _ => True) (fun _ => .val (.bl true))
abbrev sp_is_between : Sp := SpP (ι := Int × Int × Int) (fun i => [.val (.int i.1), .val (.int i.2.1), .val (.int i.2.2)]) (fun i => i.2.1 ≤ i.1 ∧ i.1 ≤ i.2.2) (fun _ => .val (.bl true))
abbrev sp_is_below : Sp := SpP (ι := Int × Int) (fun i => [.val (.int i.1), .val (.int i.2)]) (fun i => 0 ≤ i.1 ∧ i.1 < i.2) (fun _ => .val (.bl true))
abbrev sp_is_sizes : Sp := SpP (ι := List Int) (fun l => [.dat (tupI l)]) (fun l => l.length ≤ 12 ∧ ∀ s ∈ l, 2 ≤ s) (fun _ => .val (.bl true))
abbrev sp_is_hands : Sp := SpP (ι := List Int × List Int) (fun i => [.dat (tupI i.1), .dat (tupI i.2)]) (fun i => i.1.length ≤ 12 ∧ Ok1 i.1 i.2) (fun _ => .val (.bl true))
abbrev sp_are_hands : Sp := SpP (ι := Kd) (fun k => [.dat (tupI k.1), .dat (.list (k.2.map tupI))]) OkK (fun _ => .val (.bl true))
abbrev sp_wrong_part : Sp := SpP (ι := Kd) (fun k => [.dat (kindD k)]) OkK (fun _ => .val .non)
abbrev sp_is_kind : Sp := SpP (ι := Kd) (fun k => [.dat (kindD k)]) OkK (fun _ => .val (.bl true))
abbrev sp_is_amount : Sp := SpP (ι := Kd × List Int) (fun i => [.dat (kindD i.1), .dat (tupI i.2)]) (fun i => OkK i.1 ∧ Ok1 i.1.1 i.2) (fun _ => .val (.bl true))
abbrev sp_is_state : Sp := SpP (ι := Kd × Int) (fun i => [.dat (kindD i.1), .val (.int i.2)]) (fun i => OkK i.1 ∧ 0 ≤ i.2 ∧ i.2 < i.1.2.length) (fun _ => .val (.bl true))
abbrev sp_state_of : Sp := SpP (ι := Kd × List Int) (fun i => [.dat (kindD i.1), .dat (tupI i.2)]) (fun i => OkK i.1) (fun i => .dat (oD (kst i.1 i.2)))
abbrev sp_moved_by : Sp := SpP (ι := Kd × List Int × List Int) (fun i => [.dat (kindD i.1), .dat (tupI i.2.1), .dat (tupI i.2.2)]) (fun i => OkK i.1 ∧ i.2.1.length = i.1.1.length ∧ i.2.2.length = i.1.1.length) (fun i => .dat (tupI (put i.1.1 i.2.1 i.2.2)))
abbrev sp_step_of : Sp := SpP (ι := Kd × List Int × List Int) (fun i => [.dat (kindD i.1), .dat (tupI i.2.1), .dat (tupI i.2.2)]) (fun i => OkK i.1 ∧ i.2.1.length = i.1.1.length ∧ i.2.2.length = i.1.1.length) (fun i => .dat (tupI (stp i.1.1 i.2.1 i.2.2)))

theorem sc_is_whole : FnScope ["thing"] ["thing"] (defScope s_is_whole) := ⟨rfl, rfl, rfl, by decide +kernel, rfl, by decide +kernel, by decide +kernel⟩
theorem ok_is_whole (T : Tx mg) (F : DfD K mg "is_whole" s_is_whole)  : Gd P w K mg base "is_whole" 1 sp_is_whole := gd_pure (N := ["thing"]) F sc_is_whole (fun _ _ _ _ _ _ us hl => match us, hl with | [_], _ => rfl) (fun _ => rfl) fun f cdv A outer s H H0 E vs i hr hv hp => by
  obtain ⟨v, rfl, h0⟩ := isL1 hv
  refine ⟨_, (pss_one (ps_ret (pe_and (pe_cb call_isi T.isinstance boot_isinstance (pa_cons (pv 0) (pa_cons (pe_ty T.int boot_int) pa_nil))) (pe_one (pe_not (pe_cb call_isi T.isinstance boot_isinstance (pa_cons (pv 0) (pa_cons (pe_ty T.bool boot_bool) pa_nil)))))))), ?_⟩
  exact gr_ret (gv_andV (gv_isiI (r := true) (gv_var rfl h0) (by decide +kernel)) fun _ => gv_notV (gv_isiI (r := false) (gv_var rfl h0) (by decide +kernel)))

theorem sc_is_between : FnScope ["thing", "least", "most"] ["thing", "least", "most"] (defScope s_is_between) := ⟨rfl, rfl, rfl, by decide +kernel, rfl, by decide +kernel, by decide +kernel⟩
theorem ok_is_between (T : Tx mg) (F : DfD K mg "is_between" s_is_between) (G_is_whole : Gd P w K mg base "is_whole" 1 sp_is_whole) : Gd P w K mg base "is_between" 2 sp_is_between := gd_pure (N := ["thing", "least", "most"]) F sc_is_between (fun _ _ _ _ _ _ us hl => match us, hl with | [_, _, _], _ => rfl) (fun _ => rfl) fun f cdv A outer s H H0 E vs i hr hv hp => by
  obtain ⟨v0, v1, v2, rfl, h0, h1, h2⟩ := isL3 hv
  refine ⟨_, (pss_one (ps_ret (pe_and (pe_gd G_is_whole hr (pa_cons (pv 0) pa_nil)) (pe_one (pe_chain op_le op_le (pv 1) (pv 0) (pv 2)))))), ?_⟩
  exact gr_ret ((gv_andV (gv_call i.1 (ga_one (gv_var rfl h0)) trivial) fun _ => gv_chain (gv_var rfl h1) (gv_var rfl h0) rg_I0 (fun _ => gv_var rfl h2) (fun _ => rg_I0)).bl_cast (by simp [hp.1, hp.2]))

theorem sc_is_below : FnScope ["thing", "bound"] ["thing", "bound"] (defScope s_is_below) := ⟨rfl, rfl, rfl, by decide +kernel, rfl, by decide +kernel, by decide +kernel⟩
theorem ok_is_below (T : Tx mg) (F : DfD K mg "is_below" s_is_below) (G_is_between : Gd P w K mg base "is_between" 2 sp_is_between) : Gd P w K mg base "is_below" 3 sp_is_below := gd_pure (N := ["thing", "bound"]) F sc_is_below (fun _ _ _ _ _ _ us hl => match us, hl with | [_, _], _ => rfl) (fun _ => rfl) fun f cdv A outer s H H0 E vs i hr hv hp => by
  obtain ⟨v0, v1, rfl, h0, h1⟩ := isL2 hv
  refine ⟨_, (pss_one (ps_ret (pe_gd G_is_between hr (pa_cons (pv 0) (pa_cons pe_int (pa_cons (pe_op op_sub (pv 1) pe_int) pa_nil)))))), ?_⟩
  exact gr_ret (gv_call (i.1, 0, i.2 - 1) (ga_three (gv_var rfl h0) gv_int (gv_op (gv_var rfl h1) gv_int rg_I0)) ⟨hp.1, Int.le_sub_one_of_lt hp.2⟩)

theorem sc_is_sizes : FnScope ["thing", "size"] ["thing"] (defScope s_is_sizes) := ⟨rfl, rfl, rfl, by decide +kernel, rfl, by decide +kernel, by decide +kernel⟩
theorem ok_is_sizes (T : Tx mg) (F : DfD K mg "is_sizes" s_is_sizes) (G_is_whole : Gd P w K mg base "is_whole" 1 sp_is_whole) : Gd P w K mg base "is_sizes" 2 sp_is_sizes := gd_pure (N := ["thing", "size"]) F sc_is_sizes (fun _ _ _ _ _ _ us hl => match us, hl with | [_], _ => rfl) (fun _ => rfl) fun f cdv A outer s H H0 E vs i hr hv hp => by
  obtain ⟨v0, rfl, h0⟩ := isL1 hv
  refine ⟨_, (pss_cons (ps_if (pt_pw (pw_or (pt_not (pt_val (pe_cb call_isi T.isinstance boot_isinstance (pa_cons (pv 0) (pa_cons (pe_ty T.tuple boot_tuple) pa_nil))))) (pw_or1 (pt_cmpR op_gt (pe_cb call_len_seq T.len boot_len (pa_cons (pv 0) pa_nil)) (pe_gi T.MOST_SIZES) (nomark _))))) (pss_one (ps_ret pe_bl)) pss_nil)
    (pss_one (ps_ret (pe_cb (cr_all rfl) T.all boot_all (pa_cons (pe_lc (own := [("size", 1)]) (g := (gName 1)) (tt := tYes) (te := (tAndV (tCall _ [] E0 (tCons (tVar 1) tNil)) (tOp _ (tVar 1) (tC _)))) rfl sc_is_sizes.nd (pi_tup (pv 0)) (blkOk_by (N := ["thing", "size"]) (sc := defScope s_is_sizes) (by decide +kernel)) (fun _ _ _ _ _ => (pgn 1 sc_is_sizes.nd)) (fun _ _ _ _ _ => pts_nil) (fun _ _ _ _ _ => (pe_and (pe_gd G_is_whole hr (pa_cons (pv 1) pa_nil)) (pe_one (pe_cmpR op_ge (pv 1) (pe_gi T.LEAST_SIZE) (nomark _)))))) pa_nil))))), ?_⟩
  refine gr_ifR (b := false) ((gt_or (gt_not (gt_B (gv_isiT (r := true) (ds := i.map .int) (gv_var rfl h0) (by decide +kernel)))) fun _ => gt_test (gv_op (gv_lenT (ds := i.map .int) (gv_var rfl h0)) gv_int rg_I0)).cast ?_) (fun e => nomatch e) (fun _ => gn_next) fun _ => ?_
  · simp
    have := hp.1
    omega
  · refine gr_ret (gv_allT (l := i) (gl_lc1y (gi_tup (l := i) (gv_var rfl h0)) (Nat.le_trans hp.1 (by decide)) (fun _ => rfl) fun j z x H1 hz a hy => ?_))
    have hx : x = .int z := Rep.inv_int hy
    subst hx
    exact (gv_andV (gv_call z (ga_one (gv_val rfl)) trivial) fun _ => gv_op (gv_val rfl) gv_int rg_I0).bl_cast (by simp; exact hp.2 z (List.mem_of_getElem? hz))

theorem sc_is_hands : FnScope ["sizes", "thing", "hand", "size"] ["sizes", "thing"] (defScope s_is_hands) := ⟨rfl, rfl, rfl, by decide +kernel, rfl, by decide +kernel, by decide +kernel⟩
theorem ok_is_hands (T : Tx mg) (F : DfD K mg "is_hands" s_is_hands) (G_is_below : Gd P w K mg base "is_below" 3 sp_is_below) : Gd P w K mg base "is_hands" 4 sp_is_hands := gd_pure (N := ["sizes", "thing", "hand", "size"]) F sc_is_hands (fun _ _ _ _ _ _ us hl => match us, hl with | [_, _], _ => rfl) (fun _ => rfl) fun f cdv A outer s H H0 E vs i hr hv hp => by
  obtain ⟨v0, v1, rfl, h0, h1⟩ := isL2 hv
  refine ⟨_, (pss_cons (ps_if (pt_pw (pw_or (pt_not (pt_val (pe_cb call_isi T.isinstance boot_isinstance (pa_cons (pv 1) (pa_cons (pe_ty T.tuple boot_tuple) pa_nil))))) (pw_or1 (pt_cmpR op_ne (pe_cb call_len_seq T.len boot_len (pa_cons (pv 1) pa_nil)) (pe_cb call_len_seq T.len boot_len (pa_cons (pv 0) pa_nil)) (nomark _))))) (pss_one (ps_ret pe_bl)) pss_nil)
    (pss_one (ps_ret (pe_cb (cr_all rfl) T.all boot_all (pa_cons (pe_lc (own := [("hand", 2), ("size", 3)]) (g := (g2 K 2 3)) (tt := tYes) (te := (tCall _ [] E0 (tCons (tVar 2) (tCons (tVar 3) tNil)))) rfl sc_is_hands.nd (RZ.pi_zipA (by rfl) T.zip (pa_cons (pv 1) (pa_cons (pv 0) pa_nil))) (blkOk_by (N := ["sizes", "thing", "hand", "size"]) (sc := defScope s_is_hands) (by decide +kernel)) (fun _ _ _ _ _ => (pg_tup rfl (pgs_cons (pgn 2 sc_is_hands.nd) (pgs_cons (pgn 3 sc_is_hands.nd) pgs_nil)))) (fun _ _ _ _ _ => pts_nil) (fun _ _ _ _ _ => (pe_gd G_is_below hr (pa_cons (pv 2) (pa_cons (pv 3) pa_nil))))) pa_nil))))), ?_⟩
  have ll : i.2.length = i.1.length := hp.2.1
  refine gr_ifR (b := false) ((gt_or (gt_not (gt_B (gv_isiT (r := true) (ds := i.2.map .int) (gv_var rfl h1) (by decide +kernel)))) fun _ => gt_test (gv_op (gv_lenT (ds := i.2.map .int) (gv_var rfl h1)) (gv_lenT (ds := i.1.map .int) (gv_var rfl h0)) (rg_ne rfl))).cast ?_) (fun e => nomatch e) (fun _ => gn_next) fun _ => ?_
  · simp [ll]
  · refine gr_ret (gv_allT (l := i.2.zip i.1) (gl_lc2y (gi_zip2 (l := i.2) (m := i.1) (ga_two (gv_var rfl h1) (gv_var rfl h0)) ll) ?_ (fun _ _ => rfl) fun j z x y H1 hz a hx hy => ?_))
    · rw [List.length_zip]; have := hp.1; omega
    have ex : x = .int z.1 := Rep.inv_int hx
    have ey : y = .int z.2 := Rep.inv_int hy
    subst ex ey
    exact gv_call z (ga_two (gv_val rfl) (gv_val rfl)) (hp.2.2 z (List.mem_of_getElem? hz))

theorem sc_are_hands : FnScope ["sizes", "thing", "state", "hands"] ["sizes", "thing"] (defScope s_are_hands) := ⟨rfl, rfl, rfl, by decide +kernel, rfl, by decide +kernel, by decide +kernel⟩
theorem ok_are_hands (T : Tx mg) (F : DfD K mg "are_hands" s_are_hands) (G_is_hands : Gd P w K mg base "is_hands" 4 sp_is_hands) : Gd P w K mg base "are_hands" 5 sp_are_hands := gd_pure (N := ["sizes", "thing", "state", "hands"]) F sc_are_hands (fun _ _ _ _ _ _ us hl => match us, hl with | [_, _], _ => rfl) (fun _ => rfl) fun f cdv A outer s H H0 E vs i hr hv hp => by
  obtain ⟨v0, v1, rfl, h0, h1⟩ := isL2 hv
  refine ⟨_, (pss_cons (ps_if (pt_pw (pw_or (pt_not (pt_val (pe_cb call_isi T.isinstance boot_isinstance (pa_cons (pv 1) (pa_cons (pe_ty T.tuple boot_tuple) pa_nil))))) (pw_or1 (pt_not (pt_chain op_le op_le pe_int (pe_cb call_len_seq T.len boot_len (pa_cons (pv 1) pa_nil)) (pe_gi T.MOST_STATES)))))) (pss_one (ps_ret pe_bl)) pss_nil)
    (pss_cons (ps_if (pt_not (pt_val (pe_cb (cr_all rfl) T.all boot_all (pa_cons (pe_lc (own := [("hands", 3)]) (g := (gName 3)) (tt := tYes) (te := (tCall _ [] E0 (tCons (tVar 0) (tCons (tVar 3) tNil)))) rfl sc_are_hands.nd (pi_tup (pv 1)) (blkOk_by (N := ["sizes", "thing", "state", "hands"]) (sc := defScope s_are_hands) (by decide +kernel)) (fun _ _ _ _ _ => (pgn 3 sc_are_hands.nd)) (fun _ _ _ _ _ => pts_nil) (fun _ _ _ _ _ => (pe_gd G_is_hands hr (pa_cons (pv 0) (pa_cons (pv 3) pa_nil))))) pa_nil)))) (pss_one (ps_ret pe_bl)) pss_nil)
    (pss_one (ps_ret (pe_cb (cr_all rfl) T.all boot_all (pa_cons (pe_lc (own := [("state", 2), ("hands", 3)]) (g := (g2 K 2 3)) (tt := tYes) (te := (tOp (rInTD K true) (tVar 3) (tSl (rSlA K) (tVar 1) tNoPart (tPart (tVar 2))))) rfl sc_are_hands.nd (pi_enumT (by rfl) T.enumerate (pa_cons (pv 1) pa_nil)) (blkOk_by (N := ["sizes", "thing", "state", "hands"]) (sc := defScope s_are_hands) (by decide +kernel)) (fun _ _ _ _ _ => (pg_tup rfl (pgs_cons (pgn 2 sc_are_hands.nd) (pgs_cons (pgn 3 sc_are_hands.nd) pgs_nil)))) (fun _ _ _ _ _ => pts_nil) (fun _ _ _ _ _ => (pe_cmpR (op_ninTD (hu65 hr)) (pv 3) (pe_slice sl_tupA (pv 1) po_none (po_some (pv 2))) (by rfl)))) pa_nil)))))), ?_⟩
  have w : Row (.list (i.2.map tupI)) (i.2.map tupI) := row_list
  refine gr_ifR (b := false) ((gt_or (gt_not (gt_B (gv_isiT (r := true) (gv_var rfl h1) (by decide +kernel) w))) fun _ => gt_not (gt_test (gv_chain gv_int (gv_lenT (gv_var rfl h1) w) rg_I0 (fun _ => gv_int) fun _ => rg_I0))).cast ?_) (fun e => nomatch e) (fun _ => gn_next) fun _ => ?_
  · have q1 := hp.h1
    have q2 := hp.hl
    simp [q2]
    omega
  refine gr_ifR (b := false) (gt_no (gt_B (gv_allT (l := i.2) (gl_lc1y (gi_tup (gv_var rfl h1) w) (Nat.le_trans hp.hl (by decide)) (fun _ => rfl) fun j z x H1 hz a hy => ?_)))) (fun e => nomatch e) (fun _ => gn_next) fun _ => ?_
  · exact gv_call (i.1, z) (ga_two (gv_var rfl (h0.to a)) (gv_vd rfl hy)) ⟨hp.sl, hp.hh z (List.mem_of_getElem? hz)⟩
  · have lz : ((List.range i.2.length).zip i.2).length = i.2.length := by rw [List.length_zip, List.length_range, Nat.min_self]
    refine gr_ret (gv_allT (l := (List.range i.2.length).zip i.2) (gl_lc2y (gi_enumT (l := i.2) (ga_one (gv_var rfl h1)) w) (by rw [lz]; exact Nat.le_trans hp.hl (by decide)) (fun _ _ => rfl) fun j z x y H1 hz a hx hy => ?_))
    have hx' : x = .int (z.1 : Int) := hx
    subst hx'
    obtain ⟨e1, e2⟩ := List.getElem?_zip_eq_some.mp hz
    have jl : j < i.2.length := (List.getElem?_eq_some_iff.mp e2).1
    have ej : z.1 = j := by rw [List.getElem?_range jl] at e1; exact (Option.some.inj e1).symm
    rw [ej]
    refine gv_op (gv_vd rfl hy) (gv_slT (n := j) (gv_var rfl (h1.to a)) (gv_val rfl) (by rw [List.length_map]; exact jl) w) (?_ : RG S0 _ _ (.dat (.tuple ((i.2.map tupI).take j))) H1 _)
    rw [← List.map_take]
    refine rg_inTD (neg := true) (c := false) (fun _ _ => pl_tupI) pl_tupI ?_
    simp only [Bool.false_eq_true, false_iff, not_exists, not_and]
    intro b hb e
    have eb := tupI_inj e
    subst eb
    obtain ⟨m, hm⟩ := List.mem_iff_getElem?.mp hb
    rw [List.getElem?_take] at hm
    split at hm
    · rename_i hlt
      have := (List.getElem?_inj (by have := (List.getElem?_eq_some_iff.mp hm).1; omega) hp.nd).mp (hm.trans e2.symm)
      omega
    · cases hm

theorem sc_wrong_part : FnScope ["thing"] ["thing"] (defScope s_wrong_part) := ⟨rfl, rfl, rfl, by decide +kernel, rfl, by decide +kernel, by decide +kernel⟩
theorem ok_wrong_part (T : Tx mg) (F : DfD K mg "wrong_part" s_wrong_part) (G_is_sizes : Gd P w K mg base "is_sizes" 2 sp_is_sizes) (G_are_hands : Gd P w K mg base "are_hands" 5 sp_are_hands) : Gd P w K mg base "wrong_part" 6 sp_wrong_part := gd_pure (N := ["thing"]) F sc_wrong_part (fun _ _ _ _ _ _ us hl => match us, hl with | [_], _ => rfl) (fun _ => rfl) fun f cdv A outer s H H0 E vs i hr hv hp => by
  obtain ⟨v0, rfl, h0⟩ := isL1 hv
  refine ⟨_, (pss_cons (ps_if (pt_pw (pw_or (pt_not (pt_val (pe_cb call_isi T.isinstance boot_isinstance (pa_cons (pv 0) (pa_cons (pe_ty T.tuple boot_tuple) pa_nil))))) (pw_or1 (pt_cmpR op_ne (pe_cb call_len_seq T.len boot_len (pa_cons (pv 0) pa_nil)) pe_int (nomark _))))) (pss_one (ps_ret (pe_un un_neg pe_int))) pss_nil)
    (pss_cons (ps_if (pt_not (pt_val (pe_gd G_is_sizes hr (pa_cons (pe_ix ix_tup (pv 0) pe_int (fun _ _ => rfl)) pa_nil)))) (pss_one (ps_ret pe_int)) pss_nil)
    (pss_one (ps_ret (pe_ifExp (pt_val (pe_gd G_are_hands hr (pa_cons (pe_ix ix_tup (pv 0) pe_int (fun _ _ => rfl)) (pa_cons (pe_ix ix_tup (pv 0) pe_int (fun _ _ => rfl)) pa_nil)))) pe_non pe_int))))), ?_⟩
  refine gr_ifR (b := false) (gt_or (gt_not (gt_B (gv_isiT (r := true) (ds := [tupI i.1, .list (i.2.map tupI)]) (gv_var rfl h0) (by decide +kernel)))) fun _ => gt_test (gv_op (gv_lenT (ds := [tupI i.1, .list (i.2.map tupI)]) (gv_var rfl h0)) gv_int (rg_ne rfl))) (fun e => nomatch e) (fun _ => gn_next) fun _ => ?_
  refine gr_ifR (b := false) (gt_no (gt_B (gv_call i.1 (ga_one (gv_ixT (i := 0) (gv_var rfl h0) gv_int rfl rfl)) ⟨hp.sl, hp.s2⟩))) (fun e => nomatch e) (fun _ => gn_next) fun _ => ?_
  exact gr_ret (gv_if (b := true) (gt_B (gv_call i (ga_two (gv_ixT (i := 0) (gv_var rfl h0) gv_int rfl rfl) (gv_ixT (i := 1) (gv_var rfl h0) gv_int rfl rfl)) hp)) (fun _ => gv_cv) (fun e => nomatch e))

theorem sc_is_kind : FnScope ["thing"] ["thing"] (defScope s_is_kind) := ⟨rfl, rfl, rfl, by decide +kernel, rfl, by decide +kernel, by decide +kernel⟩
theorem ok_is_kind (T : Tx mg) (F : DfD K mg "is_kind" s_is_kind) (G_wrong_part : Gd P w K mg base "wrong_part" 6 sp_wrong_part) : Gd P w K mg base "is_kind" 7 sp_is_kind := gd_pure (N := ["thing"]) F sc_is_kind (fun _ _ _ _ _ _ us hl => match us, hl with | [_], _ => rfl) (fun _ => rfl) fun f cdv A outer s H H0 E vs i hr hv hp => by
  obtain ⟨v0, rfl, h0⟩ := isL1 hv
  refine ⟨_, (pss_one (ps_ret (pe_cmpR op_isN (pe_gd G_wrong_part hr (pa_cons (pv 0) pa_nil)) pe_non (nomark _)))), ?_⟩
  exact gr_ret (gv_op (gv_call i (ga_one (gv_var rfl h0)) hp) gv_cv rg_isN)

theorem sc_is_amount : FnScope ["kind", "thing"] ["kind", "thing"] (defScope s_is_amount) := ⟨rfl, rfl, rfl, by decide +kernel, rfl, by decide +kernel, by decide +kernel⟩
theorem ok_is_amount (T : Tx mg) (F : DfD K mg "is_amount" s_is_amount) (G_is_hands : Gd P w K mg base "is_hands" 4 sp_is_hands) : Gd P w K mg base "is_amount" 5 sp_is_amount := gd_pure (N := ["kind", "thing"]) F sc_is_amount (fun _ _ _ _ _ _ us hl => match us, hl with | [_, _], _ => rfl) (fun _ => rfl) fun f cdv A outer s H H0 E vs i hr hv hp => by
  obtain ⟨v0, v1, rfl, h0, h1⟩ := isL2 hv
  refine ⟨_, (pss_one (ps_ret (pe_gd G_is_hands hr (pa_cons (pe_ix ix_tup (pv 0) pe_int (fun _ _ => rfl)) (pa_cons (pv 1) pa_nil))))), ?_⟩
  exact gr_ret (gv_call (i.1.1, i.2) (ga_two (gv_ixT (i := 0) (gv_var rfl h0) gv_int rfl rfl) (gv_var rfl h1)) ⟨hp.1.sl, hp.2⟩)

theorem sc_is_state : FnScope ["kind", "thing"] ["kind", "thing"] (defScope s_is_state) := ⟨rfl, rfl, rfl, by decide +kernel, rfl, by decide +kernel, by decide +kernel⟩
theorem ok_is_state (T : Tx mg) (F : DfD K mg "is_state" s_is_state) (G_is_below : Gd P w K mg base "is_below" 3 sp_is_below) : Gd P w K mg base "is_state" 4 sp_is_state := gd_pure (N := ["kind", "thing"]) F sc_is_state (fun _ _ _ _ _ _ us hl => match us, hl with | [_, _], _ => rfl) (fun _ => rfl) fun f cdv A outer s H H0 E vs i hr hv hp => by
  obtain ⟨v0, v1, rfl, h0, h1⟩ := isL2 hv
  refine ⟨_, (pss_one (ps_ret (pe_gd G_is_below hr (pa_cons (pv 1) (pa_cons (pe_cb call_len_seq T.len boot_len (pa_cons (pe_ix ix_tup (pv 0) pe_int (fun _ _ => rfl)) pa_nil)) pa_nil))))), ?_⟩
  exact gr_ret (gv_call (i.2, (((i.1.2.map tupI).length : Nat) : Int)) (ga_two (gv_var rfl h1) (gv_lenT (gv_ixT (i := 1) (gv_var rfl h0) gv_int rfl rfl) row_list)) ⟨hp.2.1, by rw [List.length_map]; exact hp.2.2⟩)

theorem sc_state_of : FnScope ["kind", "hands"] ["kind", "hands"] (defScope s_state_of) := ⟨rfl, rfl, rfl, by decide +kernel, rfl, by decide +kernel, by decide +kernel⟩
theorem ok_state_of (T : Tx mg) (F : DfD K mg "state_of" s_state_of)  : Gd P w K mg base "state_of" 1 sp_state_of := gd_pure (N := ["kind", "hands"]) F sc_state_of (fun _ _ _ _ _ _ us hl => match us, hl with | [_, _], _ => rfl) (fun _ => rfl) fun f cdv A outer s H H0 E vs i hr hv hp => by
  obtain ⟨v0, v1, rfl, h0, h1⟩ := isL2 hv
  refine ⟨_, (pss_one (ps_ret (pe_ifExp (pt_cmpR (op_inTD (hu65 hr)) (pv 1) (pe_ix ix_tup (pv 0) pe_int (fun _ _ => rfl)) (by rfl)) (pe_idx (hu65 hr) (pe_ix ix_tup (pv 0) pe_int (fun _ _ => rfl)) (pa_cons (pv 1) pa_nil)) pe_non))), ?_⟩
  have w : Row (.list (i.1.2.map tupI)) (i.1.2.map tupI) := row_list
  have g : Gv S0 (tOp (rIxT K) (tVar 0) (tC (.int 1))) (start ["kind", "hands"] [v0, v1]) H (.dat (.list (i.1.2.map tupI))) := gv_ixT (i := 1) (gv_var rfl h0) gv_int rfl rfl
  have hc : decide (i.2 ∈ i.1.2) = true ↔ ∃ a ∈ i.1.2, tupI a = tupI i.2 := by
    rw [decide_eq_true_iff]
    exact ⟨fun h => ⟨_, h, rfl⟩, fun ⟨a, ha, e⟩ => tupI_inj e ▸ ha⟩
  refine gr_ret (gv_if (b := decide (i.2 ∈ i.1.2)) (gt_test (gv_op (gv_var rfl h1) g (rg_inTD (neg := false) (fun _ _ => pl_tupI) pl_tupI hc w))) (fun e => ?_) fun e => ?_)
  · have e' := of_decide_eq_true e
    have hk : kst i.1 i.2 = some ((@List.idxOf _ instBEqOfDecidableEq i.2 i.1.2 : Nat) : Int) := if_pos e'
    rw [hk]
    exact Gv.int_dat (gv_idxT (a := i.2) g (gv_var rfl h1) (fun _ _ => pl_tupI) pl_tupI (fun b _ => tupI_eq) e' rfl)
  · have e' := of_decide_eq_false e
    have hk : kst i.1 i.2 = none := if_neg e'
    rw [hk]
    exact Gv.non_dat gv_cv

theorem sc_moved_by : FnScope ["kind", "hands", "step", "hand", "more", "size"] ["kind", "hands", "step"] (defScope s_moved_by) := ⟨rfl, rfl, rfl, by decide +kernel, rfl, by decide +kernel, by decide +kernel⟩
theorem ok_moved_by (T : Tx mg) (F : DfD K mg "moved_by" s_moved_by)  : Gd P w K mg base "moved_by" 1 sp_moved_by := gd_pure (N := ["kind", "hands", "step", "hand", "more", "size"]) F sc_moved_by (fun _ _ _ _ _ _ us hl => match us, hl with | [_, _, _], _ => rfl) (fun _ => rfl) fun f cdv A outer s H H0 E vs i hr hv hp => by
  obtain ⟨v0, v1, v2, rfl, h0, h1, h2⟩ := isL3 hv
  refine ⟨_, (pss_one (ps_ret (pe_ct call_tuple_of T.tuple boot_tuple (pa_cons (pe_lc (own := [("hand", 3), ("more", 4), ("size", 5)]) (g := (g3 K 3 4 5)) (tt := tYes) (te := (tOp _ (tOp _ (tVar 3) (tVar 4)) (tVar 5))) rfl sc_moved_by.nd (pi_zip3 (by rfl) T.zip (pa_cons (pv 1) (pa_cons (pv 2) (pa_cons (pe_ix ix_tup (pv 0) pe_int (fun _ _ => rfl)) pa_nil)))) (blkOk_by (N := ["kind", "hands", "step", "hand", "more", "size"]) (sc := defScope s_moved_by) (by decide +kernel)) (fun _ _ _ _ _ => (pg_tup rfl (pgs_cons (pgn 3 sc_moved_by.nd) (pgs_cons (pgn 4 sc_moved_by.nd) (pgs_cons (pgn 5 sc_moved_by.nd) pgs_nil))))) (fun _ _ _ _ _ => pts_nil) (fun _ _ _ _ _ => (pe_op op_modN (pe_op op_add (pv 3) (pv 4)) (pv 5)))) pa_nil)))), ?_⟩
  have l1 := hp.2.1
  have l2 := hp.2.2
  have sl := hp.1.sl
  refine gr_ret ((gv_tupE (l := i.2.1.zip (i.2.2.zip i.1.1)) (f := fun p => .int ((p.1 + p.2.1).fmod p.2.2)) (gl_lc3y (gi_zip3 (l := i.2.1) (m := i.2.2) (n := i.1.1) (ga_three (gv_var rfl h1) (gv_var rfl h2) (gv_ixT (i := 0) (gv_var rfl h0) gv_int rfl rfl)) (by omega) l1) (by rw [List.length_zip, List.length_zip]; omega) (fun _ _ _ => rfl) fun j z x y u H1 hz a hx hy hu => ?_)).cast ?_)
  · have ex : x = .int z.1 := Rep.inv_int hx
    have ey : y = .int z.2.1 := Rep.inv_int hy
    have eu : u = .int z.2.2 := Rep.inv_int hu
    subst ex ey eu
    refine Gv.int_dat (gv_op (gv_op (gv_val rfl) (gv_val rfl) rg_I0) (gv_val rfl) (rg_I ?_))
    have m1 := List.mem_of_getElem? hz
    have m2 := (List.of_mem_zip (List.of_mem_zip m1).2).2
    have := hp.1.s2 _ m2
    exact fun e => by rw [e] at this; exact absurd this (by decide)
  · rw [tupI, put, List.map_map]
    rfl

theorem sc_step_of : FnScope ["kind", "one", "two", "here", "there", "size"] ["kind", "one", "two"] (defScope s_step_of) := ⟨rfl, rfl, rfl, by decide +kernel, rfl, by decide +kernel, by decide +kernel⟩
theorem ok_step_of (T : Tx mg) (F : DfD K mg "step_of" s_step_of)  : Gd P w K mg base "step_of" 1 sp_step_of := gd_pure (N := ["kind", "one", "two", "here", "there", "size"]) F sc_step_of (fun _ _ _ _ _ _ us hl => match us, hl with | [_, _, _], _ => rfl) (fun _ => rfl) fun f cdv A outer s H H0 E vs i hr hv hp => by
  obtain ⟨v0, v1, v2, rfl, h0, h1, h2⟩ := isL3 hv
  refine ⟨_, (pss_one (ps_ret (pe_ct call_tuple_of T.tuple boot_tuple (pa_cons (pe_lc (own := [("here", 3), ("there", 4), ("size", 5)]) (g := (g3 K 3 4 5)) (tt := tYes) (te := (tOp _ (tOp _ (tVar 4) (tVar 3)) (tVar 5))) rfl sc_step_of.nd (pi_zip3 (by rfl) T.zip (pa_cons (pv 1) (pa_cons (pv 2) (pa_cons (pe_ix ix_tup (pv 0) pe_int (fun _ _ => rfl)) pa_nil)))) (blkOk_by (N := ["kind", "one", "two", "here", "there", "size"]) (sc := defScope s_step_of) (by decide +kernel)) (fun _ _ _ _ _ => (pg_tup rfl (pgs_cons (pgn 3 sc_step_of.nd) (pgs_cons (pgn 4 sc_step_of.nd) (pgs_cons (pgn 5 sc_step_of.nd) pgs_nil))))) (fun _ _ _ _ _ => pts_nil) (fun _ _ _ _ _ => (pe_op op_modN (pe_op op_sub (pv 4) (pv 3)) (pv 5)))) pa_nil)))), ?_⟩
  have l1 := hp.2.1
  have l2 := hp.2.2
  have sl := hp.1.sl
  refine gr_ret ((gv_tupE (l := i.2.1.zip (i.2.2.zip i.1.1)) (f := fun p => .int ((p.2.1 - p.1).fmod p.2.2)) (gl_lc3y (gi_zip3 (l := i.2.1) (m := i.2.2) (n := i.1.1) (ga_three (gv_var rfl h1) (gv_var rfl h2) (gv_ixT (i := 0) (gv_var rfl h0) gv_int rfl rfl)) (by omega) l1) (by rw [List.length_zip, List.length_zip]; omega) (fun _ _ _ => rfl) fun j z x y u H1 hz a hx hy hu => ?_)).cast ?_)
  · have ex : x = .int z.1 := Rep.inv_int hx
    have ey : y = .int z.2.1 := Rep.inv_int hy
    have eu : u = .int z.2.2 := Rep.inv_int hu
    subst ex ey eu
    refine Gv.int_dat (gv_op (gv_op (gv_val rfl) (gv_val rfl) rg_I0) (gv_val rfl) (rg_I ?_))
    have m1 := List.mem_of_getElem? hz
    have m2 := (List.of_mem_zip (List.of_mem_zip m1).2).2
    have := hp.1.s2 _ m2
    exact fun e => by rw [e] at this; exact absurd this (by decide)
  · rw [tupI, stp, List.map_map]
    rfl

end
end Ed

set_option maxHeartbeats 1000000
/-! EdIds: ids as numbers; their order; names. -/
namespace Ed
open PySem PySem.Spec PyProof.Rows L2
def hnd : Nat → Str
  | 0 => "ann"
  | 1 => "b"
  | _ => "c9"
/-- the id number c: hand c / 400, its c % 400-th edit -/
def idD (c : Nat) : PyData := .tuple [.str (hnd (c / 400)), .int ((c % 400 : Nat) : Int)]
def idK (c : Nat) : List Key := [.inr (hnd (c / 400)), .inl ((c % 400 : Nat) : Int)]
def idsD (l : List Nat) : PyData := .tuple (l.map idD)
theorem toks_id (c : Nat) : PySem.W.keyToks (idD c) = [.inl 1, .inr (hnd (c / 400)).cps.toList, .inl 1, .inl ((c % 400 : Nat) : Int), .inl 0] := by
  simp [idD, PySem.W.keyToks, PySem.W.keyToksAll]
theorem hnd_blt : ∀ a b : Fin 3, PyProof.Rows.itemOrd.blt (.inr (hnd a).cps.toList) (.inr (hnd b).cps.toList) = decide (a.1 < b.1) := by decide +kernel
theorem hnd_ne : ∀ a b : Fin 3, a ≠ b → (hnd a).cps.toList ≠ (hnd b).cps.toList := by decide +kernel
theorem hnd_inj : ∀ a b : Fin 3, hnd a = hnd b → a = b := by decide +kernel
theorem id_inj {a b : Nat} (ha : a < 1200) (hb : b < 1200) (h : idD a = idD b) : a = b := by
  simp only [idD, PyData.tuple.injEq, List.cons.injEq, PyData.str.injEq, PyData.int.injEq, and_true] at h
  have q := congrArg Fin.val (hnd_inj ⟨a / 400, by omega⟩ ⟨b / 400, by omega⟩ h.1)
  have q' : a / 400 = b / 400 := q
  have r := h.2
  omega
theorem idK_inj {a b : Nat} (ha : a < 1200) (hb : b < 1200) (h : idK a = idK b) : a = b := by
  simp only [idK, List.cons.injEq, Sum.inr.injEq, Sum.inl.injEq, and_true] at h
  have q := congrArg Fin.val (hnd_inj ⟨a / 400, by omega⟩ ⟨b / 400, by omega⟩ h.1)
  have q' : a / 400 = b / 400 := q
  have r := h.2
  omega
theorem lex_id {a b : Nat} (ha : a < 1200) (hb : b < 1200) : PyProof.Rows.lexLt PyProof.Rows.itemOrd (PySem.W.keyToks (idD a)) (PySem.W.keyToks (idD b)) = decide (a < b) := by
  rw [toks_id, toks_id, PyProof.Rows.lex_self]
  by_cases e : a / 400 = b / 400
  · rw [e, PyProof.Rows.lex_self, PyProof.Rows.lex_self, PyProof.Rows.lex_cons, PyProof.Rows.lex_irrefl, Bool.and_false, Bool.or_false]
    show decide (((a % 400 : Nat) : Int) < ((b % 400 : Nat) : Int)) = _
    by_cases h : a < b
    · rw [decide_eq_true h, decide_eq_true (by omega)]
    · rw [decide_eq_false h, decide_eq_false (by omega)]
  · have ne := hnd_ne ⟨a / 400, by omega⟩ ⟨b / 400, by omega⟩ fun q => e (congrArg Fin.val q)
    rw [PyProof.Rows.lex_diff fun q => ne (Sum.inr.inj q)]
    refine (hnd_blt ⟨a / 400, by omega⟩ ⟨b / 400, by omega⟩).trans ?_
    show decide (a / 400 < b / 400) = _
    by_cases h : a < b
    · rw [decide_eq_true h, decide_eq_true (by omega)]
    · rw [decide_eq_false h, decide_eq_false (by omega)]
theorem id_lt {a b : Nat} (ha : a < 1200) (hb : b < 1200) : PySem.W.dataLt (idD a) (idD b) = decide (a < b) := lex_id ha hb
theorem id_le {a b : Nat} (ha : a < 1200) (hb : b < 1200) : PySem.W.dataLe false idD a b = decide (a ≤ b) := by
  show (!PyProof.Rows.lexLt PyProof.Rows.itemOrd (PySem.W.keyToks (idD b)) (PySem.W.keyToks (idD a))) = _
  rw [lex_id hb ha]
  by_cases h : a ≤ b
  · rw [decide_eq_true h, decide_eq_false (by omega)]; rfl
  · rw [decide_eq_false h, decide_eq_true (by omega)]; rfl
theorem id_alike (a b : Nat) : PySem.W.alike (idD a) (idD b) = true := by simp [idD, PySem.W.alike, PySem.W.alikeAll]
theorem hnd_ok (n : Nat) : PyData.strOk (hnd n) = true := by
  unfold hnd
  split <;> decide +kernel
theorem pl_id {n c : Nat} : pl (n + 2) (idD c) = true := by
  simp only [idD, pl, List.all_cons, List.all_nil, Bool.and_true, hnd_ok, pl_int]
theorem srt_of {l : List Nat} (h : l.length ≤ 100000) : Srt idD l := by
  refine ⟨fun d hd d' hd' => ?_, .inl fun d hd => ?_, fun b _ => pl_id, h⟩
  · obtain ⟨a, _, rfl⟩ := List.mem_map.mp hd
    obtain ⟨b, _, rfl⟩ := List.mem_map.mp hd'
    exact id_alike a b
  · obtain ⟨a, _, rfl⟩ := List.mem_map.mp hd
    exact ⟨_, _, rfl⟩
theorem srt_perm {l : List Nat} : (srt idD l).Perm l := List.mergeSort_perm l _
theorem srt_sorted {l : List Nat} (hl : ∀ c ∈ l, c < 1200) : (srt idD l).Pairwise (· ≤ ·) := by
  have t := PySem.W.sortLe_total (PyProof.Rows.listOrd PyProof.Rows.itemOrd) false (fun b => PySem.W.keyToks (idD b))
  have p := List.pairwise_mergeSort (le := PySem.W.dataLe false idD) (fun a b c h1 h2 => t.trans a b c h1 h2) (fun a b => Bool.or_eq_true_iff.mpr (t.total a b)) l
  refine List.Pairwise.imp_of_mem (fun {a b} ha hb h => ?_) p
  have ha' := hl a (srt_perm.mem_iff.mp ha)
  have hb' := hl b (srt_perm.mem_iff.mp hb)
  rw [id_le ha' hb'] at h
  exact of_decide_eq_true h
/-- there is one sorted list -/
theorem sorted_eq {l m : List Nat} (h : l.Perm m) (hl : l.Pairwise (· ≤ ·)) (hm : m.Pairwise (· ≤ ·)) : l = m := List.Perm.eq_of_pairwise (fun a b _ _ h1 h2 => Nat.le_antisymm h1 h2) hl hm h
theorem srt_eq {l m : List Nat} (hl : ∀ c ∈ l, c < 1200) (h : l.Perm m) : srt idD l = srt idD m :=
  sorted_eq (srt_perm.trans (h.trans srt_perm.symm)) (srt_sorted hl) (srt_sorted fun c hc => hl c (h.mem_iff.mpr hc))
theorem srt_of_sorted {l m : List Nat} (hl : ∀ c ∈ l, c < 1200) (h : l.Perm m) (hm : m.Pairwise (· < ·)) : srt idD l = m :=
  sorted_eq (srt_perm.trans h) (srt_sorted hl) (hm.imp Nat.le_of_lt)
theorem idsD_inj {l m : List Nat} (hl : ∀ c ∈ l, c < 1200) (hm : ∀ c ∈ m, c < 1200) (h : idsD l = idsD m) : l = m := by
  have e : l.map idD = m.map idD := PyData.tuple.inj h
  induction l generalizing m with
  | nil => cases m with
    | nil => rfl
    | cons => cases e
  | cons a l ih => cases m with
    | nil => cases e
    | cons b m =>
      simp only [List.map_cons, List.cons.injEq] at e
      rw [id_inj (hl a (by simp)) (hm b (by simp)) e.1, ih (m := m) (fun c hc => hl c (by simp [hc])) (fun c hc => hm c (by simp [hc])) (congrArg PyData.tuple e.2) e.2]
theorem pl_ids {n : Nat} {l : List Nat} : pl (n + 3) (idsD l) = true := by
  simp only [idsD, pl, List.all_eq_true, List.mem_map]
  rintro x ⟨c, _, rfl⟩
  exact pl_id
/-- a text that is a name -/
def okName (x : Str) : Bool := decide (1 ≤ x.length) && decide (x.length ≤ 12) && (match x.cps[0]? with | some c => decide (c ∈ ("abcdefghijklmnopqrstuvwxyz" : Str).cps.toList) | none => false) && x.cps.toList.all fun c => decide (c ∈ (("abcdefghijklmnopqrstuvwxyz" : Str) ++ ("0123456789" : Str)).cps.toList)
theorem hnd_name (n : Nat) : okName (hnd n) = true := by
  unfold hnd
  split <;> decide +kernel
/-- a lot: ids below 1200, rising -/
def Lot (l : List Nat) : Prop := (∀ c ∈ l, c < 1200) ∧ l.Pairwise (· < ·)
theorem rise_len : ∀ {l : List Nat} {k n : Nat}, l.Pairwise (· < ·) → (∀ c ∈ l, k ≤ c ∧ c < n) → l.length ≤ n - k
  | [], _, _, _, _ => Nat.zero_le _
  | a :: l, k, n, p, h => by
    obtain ⟨h1, h2⟩ := List.pairwise_cons.mp p
    have ha := h a (by simp)
    have := rise_len (l := l) (k := a + 1) (n := n) h2 fun c hc => ⟨h1 c hc, (h c (by simp [hc])).2⟩
    rw [List.length_cons]
    omega
theorem Lot.len {l : List Nat} (h : Lot l) : l.length ≤ 1200 := rise_len (k := 0) h.2 fun c hc => ⟨Nat.zero_le _, h.1 c hc⟩
end Ed

set_option maxHeartbeats 1000000
/-! EdD2: lots, names, records, ids. -/
namespace Ed
open PySem PySem.Spec PyProof.Rows L2
section
variable {P : Program} {w : World} {K : PySem.W.Frag} {mg : Str → Option Value} {base : Heap}
abbrev sp_is_lot : Sp := SpP (ι := List Nat) (fun l => [.dat (natD l)]) (fun l => l.length ≤ 400 ∧ (∀ x ∈ l, x < 400) ∧ l.Pairwise (· < ·)) (fun _ => .val (.bl true))
abbrev sp_want_lot : Sp := SpP (ι := Int × List Nat) (fun i => [.val (.int i.1), .dat (natD i.2)]) (fun i => i.2.length ≤ 400 ∧ (∀ x ∈ i.2, x < 400 ∧ (x : Int) < i.1) ∧ i.2.Pairwise (· < ·)) (fun _ => .val .non)
abbrev sp_is_name : Sp := SpP (ι := Str) (fun x => [.val (.str x)]) (fun x => okName x = true) (fun _ => .val (.bl true))
abbrev sp_want_name : Sp := SpP (ι := Str) (fun x => [.val (.str x)]) (fun x => okName x = true) (fun _ => .val .non)
abbrev sp_are_few : Sp := SpP (ι := List Kd) (fun fs => [.dat (fieldsD fs)]) OkF (fun _ => .val (.bl true))
abbrev sp_first_wrong : Sp := SpP (ι := List Kd) (fun fs => [.dat (fieldsD fs)]) OkF (fun _ => .val .non)
abbrev sp_made_fields : Sp := SpP (ι := List Kd) (fun fs => [.dat (fieldsD fs)]) OkF (fun fs => .dat (fieldsD fs))
abbrev sp_want_record : Sp := SpP (ι := List Kd × List Int) (fun i => [.dat (fieldsD i.1), .dat (tupI i.2)]) (fun i => OkF i.1 ∧ OkR i.1 i.2) (fun _ => .val .non)
abbrev sp_is_amounts : Sp := SpP (ι := List Kd × List (List Int)) (fun i => [.dat (fieldsD i.1), .dat (amD i.2)]) (fun i => OkF i.1 ∧ OkA i.1 i.2) (fun _ => .val (.bl true))
abbrev sp_amounts_of : Sp := SpP (ι := List Kd × List Int) (fun i => [.dat (fieldsD i.1), .dat (tupI i.2)]) (fun i => OkF i.1 ∧ OkR i.1 i.2) (fun i => .dat (amD (amOf i.1 i.2)))
abbrev sp_steps_between : Sp := SpP (ι := List Kd × List (List Int) × List (List Int)) (fun i => [.dat (fieldsD i.1), .dat (amD i.2.1), .dat (amD i.2.2)]) (fun i => OkF i.1 ∧ OkA i.1 i.2.1 ∧ OkA i.1 i.2.2) (fun i => .dat (amD (stps i.1 i.2.1 i.2.2)))
abbrev sp_amounts_behind : Sp := SpP (ι := List Kd × List (List Int) × List (List Int)) (fun i => [.dat (fieldsD i.1), .dat (amD i.2.1), .dat (amD i.2.2)]) (fun i => OkF i.1 ∧ OkA i.1 i.2.1 ∧ OkA i.1 i.2.2) (fun i => .dat (amD (puts i.1 i.2.1 i.2.2)))
abbrev sp_record_at : Sp := SpP (ι := List Kd × List (List Int)) (fun i => [.dat (fieldsD i.1), .dat (amD i.2)]) (fun i => OkF i.1 ∧ OkA i.1 i.2) (fun i => .dat (recD (recAt i.1 i.2)))
abbrev sp_is_id : Sp := SpP (ι := Nat) (fun c => [.dat (idD c)]) (fun c => c < 1200) (fun _ => .val (.bl true))
abbrev sp_is_ids : Sp := SpP (ι := List Nat) (fun l => [.dat (idsD l)]) Lot (fun _ => .val (.bl true))
abbrev sp_want_ids : Sp := SpP (ι := List Nat) (fun l => [.dat (idsD l)]) Lot (fun _ => .val .non)
theorem idsD_get {l : List Nat} {j : Nat} {a : Nat} (h : l[j]? = some a) : (l.map idD)[j]? = some (idD a) := by rw [List.getElem?_map, h]; rfl
theorem pw_get {l : List Nat} (h : l.Pairwise (· < ·)) {j a b : Nat} (h1 : l[j]? = some a) (h2 : l[j + 1]? = some b) : a < b := by
  obtain ⟨i1, e1⟩ := List.getElem?_eq_some_iff.mp h1
  obtain ⟨i2, e2⟩ := List.getElem?_eq_some_iff.mp h2
  have := List.pairwise_iff_getElem.mp h j (j + 1) i1 i2 (by omega)
  rwa [e1, e2] at this
theorem step_get {n j z : Nat} (h : (List.range ((n : Int) - 1).toNat)[j]? = some z) : z + 1 < n := by
  have hj : j < ((n : Int) - 1).toNat := by have := (List.getElem?_eq_some_iff.mp h).1; rwa [List.length_range] at this
  rw [List.getElem?_range hj] at h
  cases h
  omega
theorem some_get {l : List Nat} {z : Nat} (h : z < l.length) : ∃ a, l[z]? = some a := ⟨_, List.getElem?_eq_getElem h⟩

theorem sc_is_lot : FnScope ["thing", "at", "edit"] ["thing"] (defScope s_is_lot) := ⟨rfl, rfl, rfl, by decide +kernel, rfl, by decide +kernel, by decide +kernel⟩
theorem ok_is_lot (T : Tx mg) (F : DfD K mg "is_lot" s_is_lot) (G_is_below : Gd P w K mg base "is_below" 3 sp_is_below) : Gd P w K mg base "is_lot" 4 sp_is_lot := gd_pure (N := ["thing", "at", "edit"]) F sc_is_lot (fun _ _ _ _ _ _ us hl => match us, hl with | [_], _ => rfl) (fun _ => rfl) fun f cdv A outer s H H0 E vs i hr hv hp => by
  obtain ⟨v0, rfl, h0⟩ := isL1 hv
  refine ⟨_, (pss_cons (ps_if (pt_pw (pw_or (pt_not (pt_val (pe_cb call_isi T.isinstance boot_isinstance (pa_cons (pv 0) (pa_cons (pe_ty T.tuple boot_tuple) pa_nil))))) (pw_or1 (pt_not (pt_val (pe_cb (cr_all rfl) T.all boot_all (pa_cons (pe_lc (own := [("edit", 2)]) (g := (gName 2)) (tt := tYes) (te := (tCall _ [] E0 (tCons (tVar 2) (tCons (tC _) tNil)))) rfl sc_is_lot.nd (pi_tup (pv 0)) (blkOk_by (N := ["thing", "at", "edit"]) (sc := defScope s_is_lot) (by decide +kernel)) (fun _ _ _ _ _ => (pgn 2 sc_is_lot.nd)) (fun _ _ _ _ _ => pts_nil) (fun _ _ _ _ _ => (pe_gd G_is_below hr (pa_cons (pv 2) (pa_cons (pe_gi T.MOST_EDITS_lotwork) pa_nil))))) pa_nil))))))) (pss_one (ps_ret pe_bl)) pss_nil)
    (pss_one (ps_ret (pe_cb (cr_all rfl) T.all boot_all (pa_cons (pe_lc (own := [("at", 1)]) (g := (gName 1)) (tt := tYes) (te := (tOp _ (tOp (rIxT K) (tVar 0) (tOp _ (tVar 1) (tC _))) (tOp (rIxT K) (tVar 0) (tVar 1)))) rfl sc_is_lot.nd (pi_range2 (by rfl) T.range (pa_cons pe_int (pa_cons (pe_cb call_len_seq T.len boot_len (pa_cons (pv 0) pa_nil)) pa_nil))) (blkOk_by (N := ["thing", "at", "edit"]) (sc := defScope s_is_lot) (by decide +kernel)) (fun _ _ _ _ _ => (pgn 1 sc_is_lot.nd)) (fun _ _ _ _ _ => pts_nil) (fun _ _ _ _ _ => (pe_cmpR op_lt (pe_ix ix_tup (pv 0) (pe_op op_sub (pv 1) pe_int) (fun _ _ => rfl)) (pe_ix ix_tup (pv 0) (pv 1) (fun _ _ => rfl)) (nomark _)))) pa_nil))))), ?_⟩
  refine gr_ifR (b := false) ((gt_or (gt_not (gt_B (gv_isiT (r := true) (ds := i.map fun n : Nat => PyData.int (n : Int)) (gv_var rfl h0) (by decide +kernel)))) fun _ => gt_not (gt_B (gv_allT (l := i) (gl_lc1y (gi_tup (l := i) (enc := fun n : Nat => PyData.int (n : Int)) (gv_var rfl h0) ) (Nat.le_trans hp.1 (by decide)) (fun _ => rfl) fun j z x H1 hz a hy => gv_call ((z : Int), (400 : Int)) (ga_two (Gv.int_val (gv_vd rfl hy)) gv_int) ⟨by show (0 : Int) ≤ (z : Int); omega, by have := hp.2.1 z (List.mem_of_getElem? hz); show (z : Int) < 400; omega⟩)))).cast rfl) (fun e => nomatch e) (fun _ => gn_next) fun _ => ?_
  refine gr_ret (gv_allT (l := List.range ((i.length : Int) - 1).toNat) (gl_lc1y (gi_rng2 (lo := 1) (hi' := (i.length : Int)) (ga_two gv_int (gv_lenT (ds := i.map fun n : Nat => PyData.int (n : Int)) (gv_var rfl h0)|>.int_cast (by rw [List.length_map]))) (by decide) (by have := hp.1; omega)) (by rw [List.length_range]; have := hp.1; omega) (fun _ => rfl) fun j z x H1 hz a hy => ?_))
  have hx : x = .int (1 + (z : Int)) := hy
  subst hx
  have hz' := step_get hz
  obtain ⟨u, hu⟩ := some_get (l := i) (z := z) (by omega)
  obtain ⟨y, hy2⟩ := some_get hz'
  have lt := pw_get hp.2.2 hu hy2
  have hu' := List.mem_of_getElem? hu
  have hy' := List.mem_of_getElem? hy2
  have g : ∀ (k w : Nat), i[k]? = some w → (i.map fun n : Nat => PyData.int (n : Int))[k]? = some (.int (w : Int)) := fun k w e => by rw [List.getElem?_map, e]; rfl
  exact (gv_op (Gv.int_val (gv_ixT (i := z) (gv_var rfl (h0.to a)) (gv_op (gv_val rfl) gv_int rg_I0) (by omega) (g _ _ hu))) (Gv.int_val (gv_ixT (i := z + 1) (gv_var rfl (h0.to a)) (gv_val rfl) (by omega) (g _ _ hy2))) rg_I0).bl_cast (decide_eq_true (by omega))

theorem sc_want_lot : FnScope ["many", "thing", "edit"] ["many", "thing"] (defScope s_want_lot) := ⟨rfl, rfl, rfl, by decide +kernel, rfl, by decide +kernel, by decide +kernel⟩
theorem ok_want_lot (T : Tx mg) (F : DfD K mg "want_lot" s_want_lot) (G_is_lot : Gd P w K mg base "is_lot" 4 sp_is_lot) : Gd P w K mg base "want_lot" 5 sp_want_lot := gd_none (N := ["many", "thing", "edit"]) F sc_want_lot (fun _ _ _ _ _ _ us hl => match us, hl with | [_, _], _ => rfl) (fun _ => rfl) fun f cdv A outer s H H0 E vs i hr hv hp => by
  obtain ⟨v0, v1, rfl, h0, h1⟩ := isL2 hv
  refine ⟨_, (pss_cons (ps_if (pt_not (pt_val (pe_gd G_is_lot hr (pa_cons (pv 1) pa_nil)))) pss_never pss_nil)
    (pss_one (ps_for PassesOwn.never rfl (pi_tup (pv 1)) (pgn 2 sc_want_lot.nd) (pss_one (ps_if (pt_cmpR op_ge (pv 2) (pv 0) (nomark _)) pss_never pss_nil))))), ?_⟩
  refine gf_seq (gn_skip (gt_no (gt_B (gv_call i.2 (ga_one (gv_var rfl h1)) ⟨hp.1, fun x hx => (hp.2.1 x hx).1, hp.2.2⟩)))) ?_
  refine gf_for (l := i.2) (gi_tup (enc := fun n : Nat => .int (n : Int)) (gv_var rfl h1) ) (fun σ' => ∃ u, σ' = [some v0, some v1, u]) ⟨none, rfl⟩ fun j z x σ' H1 hz a hq hy => ?_
  obtain ⟨u, rfl⟩ := hq
  have hx : x = .int (z : Int) := Rep.inv_int hy
  subst hx
  refine ⟨[some v0, some v1, some (.int (z : Int))], fun _ q => q, ⟨_, rfl⟩, gn_skip ((gt_test (gv_op (gv_val rfl) (gv_var rfl (h0.to a)) rg_I0)).cast (decide_eq_false ?_))⟩
  have := (hp.2.1 z (List.mem_of_getElem? hz)).2
  omega

theorem sc_is_name : FnScope ["thing", "sign"] ["thing"] (defScope s_is_name) := ⟨rfl, rfl, rfl, by decide +kernel, rfl, by decide +kernel, by decide +kernel⟩
theorem ok_is_name (T : Tx mg) (F : DfD K mg "is_name" s_is_name)  : Gd P w K mg base "is_name" 1 sp_is_name := gd_pure (N := ["thing", "sign"]) F sc_is_name (fun _ _ _ _ _ _ us hl => match us, hl with | [_], _ => rfl) (fun _ => rfl) fun f cdv A outer s H H0 E vs i hr hv hp => by
  obtain ⟨v0, rfl, h0⟩ := isL1 hv
  refine ⟨_, (pss_cons (ps_if (pt_pw (pw_or (pt_not (pt_val (pe_cb call_isi T.isinstance boot_isinstance (pa_cons (pv 0) (pa_cons (pe_ty T.str boot_str) pa_nil))))) (pw_or1 (pt_not (pt_chain op_le op_le pe_int (pe_cb call_len T.len boot_len (pa_cons (pv 0) pa_nil)) (pe_gi T.MOST_IN_NAME)))))) (pss_one (ps_ret pe_bl)) pss_nil)
    (pss_one (ps_ret (pe_and (pe_cmpR op_in_sign (pe_item_str (pv 0) pe_int (fun _ _ => rfl)) (pe_gs T.LETTERS) (by rfl)) (pe_one (pe_cb (cr_all rfl) T.all boot_all (pa_cons (pe_lc (own := [("sign", 1)]) (g := (gName 1)) (tt := tYes) (te := (tOp _ (tVar 1) (tOp _ (tC _) (tC _)))) rfl sc_is_name.nd (pi_str (pv 0)) (blkOk_by (N := ["thing", "sign"]) (sc := defScope s_is_name) (by decide +kernel)) (fun _ _ _ _ _ => (pgn 1 sc_is_name.nd)) (fun _ _ _ _ _ => pts_nil) (fun _ _ _ _ _ => (pe_cmpR op_in_sign (pv 1) (pe_op op_add_str (pe_gs T.LETTERS) (pe_gs T.FIGURES)) (by rfl)))) pa_nil))))))), ?_⟩
  simp only [okName, Bool.and_eq_true, decide_eq_true_eq] at hp
  obtain ⟨⟨⟨p1, p2⟩, p3⟩, p4⟩ := hp
  have eS : v0 = .str i := h0
  subst eS
  refine gr_ifR (b := false) ((gt_or (gt_not (gt_B (gv_isiS (r := true) (gv_val rfl) (by decide +kernel)))) fun _ => gt_not (gt_test (gv_chain gv_int (gv_lenS (z := i) (gv_val rfl) (by omega)) rg_I0 (fun _ => gv_int) fun _ => rg_I0))).cast ?_) (fun e => nomatch e) (fun _ => gn_next) fun _ => ?_
  · simp
    omega
  have lc : i.length = i.cps.size := rfl
  have h0' : 0 < i.cps.size := by omega
  have e0 : i.cps[0]? = some i.cps[0] := Array.getElem?_eq_getElem h0'
  rw [e0] at p3
  refine gr_ret ((gv_andV (b := true) (c := true) (gv_op (o := .val (.str i)) (p := .val (.int 0)) (q := .val (.str ⟨#[i.cps[0]]⟩)) (gv_val rfl) gv_int ?_ |> fun g => gv_op g (gv_cv (v := .str "abcdefghijklmnopqrstuvwxyz")) ?_) fun _ => gv_allT (l := i.cps.toList) (gl_lc1y (gi_str (gv_val rfl)) (by rw [Array.length_toList]; omega) (fun _ => rfl) fun j z x H1 hz a hy => ?_)))
  · intro H1 a x y hx hy Q k
    cases hx
    cases hy
    refine ⟨_, _, rfl, rfl, k _ H1 a.fin ?_⟩
    exact congrArg V.bl p3
  · intro H1 a x y hx hy Q k
    cases hx
    cases hy
    refine ⟨i, 0, i.cps[0], rfl, rfl, by decide, by decide, ?_, e0, k _ H1 a.fin rfl⟩
    omega
  · have hx : x = .str ⟨#[z]⟩ := hy
    subst hx
    refine gv_op (q := .val (.bl true)) (p := .val (.str (("abcdefghijklmnopqrstuvwxyz" : Str) ++ ("0123456789" : Str)))) (gv_val rfl) (gv_op (gv_cv (v := .str "abcdefghijklmnopqrstuvwxyz")) (gv_cv (v := .str "0123456789")) ?_) ?_
    · intro H1 a x y hx hy Q k
      cases hx
      cases hy
      exact ⟨_, _, rfl, rfl, by decide +kernel, k _ H1 a.fin rfl⟩
    · intro H1 a x y hx hy Q k
      cases hx
      cases hy
      refine ⟨_, _, rfl, rfl, k _ H1 a.fin ?_⟩
      have := List.all_eq_true.mp p4 z (List.mem_of_getElem? hz)
      rw [this]
      rfl

theorem sc_want_name : FnScope ["thing"] ["thing"] (defScope s_want_name) := ⟨rfl, rfl, rfl, by decide +kernel, rfl, by decide +kernel, by decide +kernel⟩
theorem ok_want_name (T : Tx mg) (F : DfD K mg "want_name" s_want_name) (G_is_name : Gd P w K mg base "is_name" 1 sp_is_name) : Gd P w K mg base "want_name" 2 sp_want_name := gd_none (N := ["thing"]) F sc_want_name (fun _ _ _ _ _ _ us hl => match us, hl with | [_], _ => rfl) (fun _ => rfl) fun f cdv A outer s H H0 E vs i hr hv hp => by
  obtain ⟨v0, rfl, h0⟩ := isL1 hv
  refine ⟨_, (pss_one (ps_if (pt_not (pt_val (pe_gd G_is_name hr (pa_cons (pv 0) pa_nil)))) pss_never pss_nil)), ?_⟩
  exact (gn_skip (gt_no (gt_B (gv_call i (ga_one (gv_var rfl h0)) hp)))).gf

theorem sc_are_few : FnScope ["thing"] ["thing"] (defScope s_are_few) := ⟨rfl, rfl, rfl, by decide +kernel, rfl, by decide +kernel, by decide +kernel⟩
theorem ok_are_few (T : Tx mg) (F : DfD K mg "are_few" s_are_few)  : Gd P w K mg base "are_few" 1 sp_are_few := gd_pure (N := ["thing"]) F sc_are_few (fun _ _ _ _ _ _ us hl => match us, hl with | [_], _ => rfl) (fun _ => rfl) fun f cdv A outer s H H0 E vs i hr hv hp => by
  obtain ⟨v0, rfl, h0⟩ := isL1 hv
  refine ⟨_, (pss_one (ps_ret (pe_and (pe_cb call_isi T.isinstance boot_isinstance (pa_cons (pv 0) (pa_cons (pe_ty T.tuple boot_tuple) pa_nil))) (pe_one (pe_chain op_le op_le pe_int (pe_cb call_len_seq T.len boot_len (pa_cons (pv 0) pa_nil)) (pe_gi T.MOST_FIELDS)))))), ?_⟩
  have l1 := hp.l1
  have l6 := hp.l6
  exact gr_ret ((gv_andV (gv_isiT (r := true) (ds := i.map kindD) (gv_var rfl h0) (by decide +kernel)) fun _ => gv_chain gv_int (gv_lenT (ds := i.map kindD) (gv_var rfl h0)) rg_I0 (fun _ => gv_int) fun _ => rg_I0).bl_cast (by rw [List.length_map]; simp; omega))

theorem sc_first_wrong : FnScope ["thing", "index", "kind"] ["thing"] (defScope s_first_wrong) := ⟨rfl, rfl, rfl, by decide +kernel, rfl, by decide +kernel, by decide +kernel⟩
theorem ok_first_wrong (T : Tx mg) (F : DfD K mg "first_wrong" s_first_wrong) (G_is_kind : Gd P w K mg base "is_kind" 7 sp_is_kind) : Gd P w K mg base "first_wrong" 8 sp_first_wrong := gd_pure (N := ["thing", "index", "kind"]) F sc_first_wrong (fun _ _ _ _ _ _ us hl => match us, hl with | [_], _ => rfl) (fun _ => rfl) fun f cdv A outer s H H0 E vs i hr hv hp => by
  obtain ⟨v0, rfl, h0⟩ := isL1 hv
  refine ⟨_, (pss_cons (ps_for PassesOwn.never rfl (pi_enumT (by rfl) T.enumerate (pa_cons (pv 0) pa_nil)) (pg_tup rfl (pgs_cons (pgn 1 sc_first_wrong.nd) (pgs_cons (pgn 2 sc_first_wrong.nd) pgs_nil))) (pss_one (ps_if (pt_not (pt_val (pe_gd G_is_kind hr (pa_cons (pv 2) pa_nil)))) (pss_one (ps_ret (pv 1))) pss_nil)))
    (pss_one (ps_ret pe_non))), ?_⟩
  refine gr_for (l := (List.range i.length).zip i) (gi_enumT (l := i) (ea := kindD) (ga_one (gv_var rfl h0))) (fun σ' => ∃ u w, σ' = [some v0, u, w]) ⟨none, none, rfl⟩ (fun j z x σ' H1 hz a hq hy => ?_) fun σ' H1 a hq => ?_
  · obtain ⟨u, w, rfl⟩ := hq
    obtain ⟨T', x1, x2, rfl, hT, hx1, hx2⟩ := hy
    exact ⟨[some v0, some x1, some x2], fun _ q => g2_ok hT q, ⟨_, _, rfl⟩, gn_skip (gt_no (gt_B (gv_call z.2 (ga_one (gv_vd rfl hx2)) (hp.k _ (List.of_mem_zip (List.mem_of_getElem? hz)).2))))⟩
  · exact gr_ret gv_cv

theorem sc_made_fields : FnScope ["thing", "index"] ["thing"] (defScope s_made_fields) := ⟨rfl, rfl, rfl, by decide +kernel, rfl, by decide +kernel, by decide +kernel⟩
theorem ok_made_fields (T : Tx mg) (F : DfD K mg "made_fields" s_made_fields) (G_are_few : Gd P w K mg base "are_few" 1 sp_are_few) (G_first_wrong : Gd P w K mg base "first_wrong" 8 sp_first_wrong) : Gd P w K mg base "made_fields" 9 sp_made_fields := gd_pure (N := ["thing", "index"]) F sc_made_fields (fun _ _ _ _ _ _ us hl => match us, hl with | [_], _ => rfl) (fun _ => rfl) fun f cdv A outer s H H0 E vs i hr hv hp => by
  obtain ⟨v0, rfl, h0⟩ := isL1 hv
  refine ⟨_, (pss_cons (ps_if (pt_not (pt_val (pe_gd G_are_few hr (pa_cons (pv 0) pa_nil)))) pss_never pss_nil)
    (pss_cons (psn 1 sc_made_fields.nd (pe_gd G_first_wrong hr (pa_cons (pv 0) pa_nil)))
    (pss_cons (ps_if (pt_cmpR op_notN (pv 1) pe_non (nomark _)) pss_never pss_nil)
    (pss_one (ps_ret (pv 0)))))), ?_⟩
  refine gr_skip (gt_no (gt_B (gv_call i (ga_one (gv_var rfl h0)) hp))) ?_
  refine gr_set (gv_call i (ga_one (gv_var rfl h0)) hp) fun v H1 a he => ?_
  have he' : v = .non := he
  subst he'
  exact gr_skip ((gt_test (gv_op (gv_val rfl) gv_cv rg_notN)).cast rfl) (gr_ret (gv_var rfl (h0.to a)))

theorem sc_want_record : FnScope ["fields", "thing", "index", "kind"] ["fields", "thing"] (defScope s_want_record) := ⟨rfl, rfl, rfl, by decide +kernel, rfl, by decide +kernel, by decide +kernel⟩
theorem ok_want_record (T : Tx mg) (F : DfD K mg "want_record" s_want_record) (G_is_state : Gd P w K mg base "is_state" 4 sp_is_state) : Gd P w K mg base "want_record" 5 sp_want_record := gd_none (N := ["fields", "thing", "index", "kind"]) F sc_want_record (fun _ _ _ _ _ _ us hl => match us, hl with | [_, _], _ => rfl) (fun _ => rfl) fun f cdv A outer s H H0 E vs i hr hv hp => by
  obtain ⟨v0, v1, rfl, h0, h1⟩ := isL2 hv
  refine ⟨_, (pss_cons (ps_if (pt_pw (pw_or (pt_not (pt_val (pe_cb call_isi T.isinstance boot_isinstance (pa_cons (pv 1) (pa_cons (pe_ty T.tuple boot_tuple) pa_nil))))) (pw_or1 (pt_cmpR op_ne (pe_cb call_len_seq T.len boot_len (pa_cons (pv 1) pa_nil)) (pe_cb call_len_seq T.len boot_len (pa_cons (pv 0) pa_nil)) (nomark _))))) pss_never pss_nil)
    (pss_one (ps_for PassesOwn.never rfl (pi_enumT (by rfl) T.enumerate (pa_cons (pv 0) pa_nil)) (pg_tup rfl (pgs_cons (pgn 2 sc_want_record.nd) (pgs_cons (pgn 3 sc_want_record.nd) pgs_nil))) (pss_one (ps_if (pt_not (pt_val (pe_gd G_is_state hr (pa_cons (pv 3) (pa_cons (pe_ix ix_tup (pv 1) (pv 2) (fun _ _ => rfl)) pa_nil))))) pss_never pss_nil))))), ?_⟩
  have ll := hp.2.1
  have l6 := hp.1.l6
  refine gf_seq (gn_skip ((gt_or (gt_not (gt_B (gv_isiT (r := true) (ds := i.2.map .int) (gv_var rfl h1) (by decide +kernel)))) fun _ => gt_test (gv_op (gv_lenT (ds := i.2.map .int) (gv_var rfl h1)) (gv_lenT (ds := i.1.map kindD) (gv_var rfl h0)) (rg_ne rfl))).cast (by simp [ll]))) ?_
  refine gf_for (l := (List.range i.1.length).zip i.1) (gi_enumT (l := i.1) (ea := kindD) (ga_one (gv_var rfl h0))) (fun σ' => ∃ u w, σ' = [some v0, some v1, u, w]) ⟨none, none, rfl⟩ fun j z x σ' H1 hz a hq hy => ?_
  obtain ⟨u, w, rfl⟩ := hq
  obtain ⟨T', x1, x2, rfl, hT, hx1, hx2⟩ := hy
  have e1 : x1 = .int (z.1 : Int) := hx1
  subst e1
  obtain ⟨g1, g2⟩ := List.getElem?_zip_eq_some.mp hz
  have jl := (List.getElem?_eq_some_iff.mp g2).1
  have ez : z.1 = j := by rw [List.getElem?_range jl] at g1; exact (Option.some.inj g1).symm
  have jr : j < i.2.length := by omega
  have gr : i.2[j]? = some i.2[j] := List.getElem?_eq_getElem jr
  have ok := hp.2.2 _ (List.mem_of_getElem? (zip_get g2 gr))
  exact ⟨[some v0, some v1, some (.int (z.1 : Int)), some x2], fun _ q => g2_ok hT q, ⟨_, _, rfl⟩, gn_skip (gt_no (gt_B (gv_call (z.2, i.2[j]) (ga_two (gv_vd rfl hx2) (Gv.int_val (gv_ixT (i := j) (ds := i.2.map .int) (gv_var rfl (h1.to a)) (gv_val rfl) (by rw [ez]) (by rw [List.getElem?_map, gr]; rfl)))) ⟨hp.1.k _ (List.mem_of_getElem? g2), ok⟩)))⟩

theorem sc_is_amounts : FnScope ["fields", "thing", "kind", "amount"] ["fields", "thing"] (defScope s_is_amounts) := ⟨rfl, rfl, rfl, by decide +kernel, rfl, by decide +kernel, by decide +kernel⟩
theorem ok_is_amounts (T : Tx mg) (F : DfD K mg "is_amounts" s_is_amounts) (G_is_amount : Gd P w K mg base "is_amount" 5 sp_is_amount) : Gd P w K mg base "is_amounts" 6 sp_is_amounts := gd_pure (N := ["fields", "thing", "kind", "amount"]) F sc_is_amounts (fun _ _ _ _ _ _ us hl => match us, hl with | [_, _], _ => rfl) (fun _ => rfl) fun f cdv A outer s H H0 E vs i hr hv hp => by
  obtain ⟨v0, v1, rfl, h0, h1⟩ := isL2 hv
  refine ⟨_, (pss_cons (ps_if (pt_pw (pw_or (pt_not (pt_val (pe_cb call_isi T.isinstance boot_isinstance (pa_cons (pv 1) (pa_cons (pe_ty T.tuple boot_tuple) pa_nil))))) (pw_or1 (pt_cmpR op_ne (pe_cb call_len_seq T.len boot_len (pa_cons (pv 1) pa_nil)) (pe_cb call_len_seq T.len boot_len (pa_cons (pv 0) pa_nil)) (nomark _))))) (pss_one (ps_ret pe_bl)) pss_nil)
    (pss_one (ps_ret (pe_cb (cr_all rfl) T.all boot_all (pa_cons (pe_lc (own := [("kind", 2), ("amount", 3)]) (g := (g2 K 2 3)) (tt := tYes) (te := (tCall _ [] E0 (tCons (tVar 2) (tCons (tVar 3) tNil)))) rfl sc_is_amounts.nd (RZ.pi_zipA (by rfl) T.zip (pa_cons (pv 0) (pa_cons (pv 1) pa_nil))) (blkOk_by (N := ["fields", "thing", "kind", "amount"]) (sc := defScope s_is_amounts) (by decide +kernel)) (fun _ _ _ _ _ => (pg_tup rfl (pgs_cons (pgn 2 sc_is_amounts.nd) (pgs_cons (pgn 3 sc_is_amounts.nd) pgs_nil)))) (fun _ _ _ _ _ => pts_nil) (fun _ _ _ _ _ => (pe_gd G_is_amount hr (pa_cons (pv 2) (pa_cons (pv 3) pa_nil))))) pa_nil))))), ?_⟩
  have ll := hp.2.1
  have l6 := hp.1.l6
  refine gr_ifR (b := false) ((gt_or (gt_not (gt_B (gv_isiT (r := true) (ds := i.2.map tupI) (gv_var rfl h1) (by decide +kernel)))) fun _ => gt_test (gv_op (gv_lenT (ds := i.2.map tupI) (gv_var rfl h1)) (gv_lenT (ds := i.1.map kindD) (gv_var rfl h0)) (rg_ne rfl))).cast (by simp [ll])) (fun e => nomatch e) (fun _ => gn_next) fun _ => ?_
  refine gr_ret (gv_allT (l := i.1.zip i.2) (gl_lc2y (gi_zip2 (l := i.1) (m := i.2) (ea := kindD) (eb := tupI) (ga_two (gv_var rfl h0) (gv_var rfl h1)) ll.symm) (by rw [List.length_zip]; omega) (fun _ _ => rfl) fun j z x y H1 hz a hx hy => ?_))
  have hm := List.mem_of_getElem? hz
  exact gv_call z (ga_two (gv_vd rfl hx) (gv_vd rfl hy)) ⟨hp.1.k _ (List.of_mem_zip hm).1, hp.2.2 z hm⟩

theorem sc_amounts_of : FnScope ["fields", "record", "kind", "state"] ["fields", "record"] (defScope s_amounts_of) := ⟨rfl, rfl, rfl, by decide +kernel, rfl, by decide +kernel, by decide +kernel⟩
theorem ok_amounts_of (T : Tx mg) (F : DfD K mg "amounts_of" s_amounts_of)  : Gd P w K mg base "amounts_of" 1 sp_amounts_of := gd_pure (N := ["fields", "record", "kind", "state"]) F sc_amounts_of (fun _ _ _ _ _ _ us hl => match us, hl with | [_, _], _ => rfl) (fun _ => rfl) fun f cdv A outer s H H0 E vs i hr hv hp => by
  obtain ⟨v0, v1, rfl, h0, h1⟩ := isL2 hv
  refine ⟨_, (pss_one (ps_ret (pe_ct call_tuple_of T.tuple boot_tuple (pa_cons (pe_lc (own := [("kind", 2), ("state", 3)]) (g := (g2 K 2 3)) (tt := tYes) (te := (tOp (rIxT K) (tOp (rIxT K) (tVar 2) (tC _)) (tVar 3))) rfl sc_amounts_of.nd (RZ.pi_zipA (by rfl) T.zip (pa_cons (pv 0) (pa_cons (pv 1) pa_nil))) (blkOk_by (N := ["fields", "record", "kind", "state"]) (sc := defScope s_amounts_of) (by decide +kernel)) (fun _ _ _ _ _ => (pg_tup rfl (pgs_cons (pgn 2 sc_amounts_of.nd) (pgs_cons (pgn 3 sc_amounts_of.nd) pgs_nil)))) (fun _ _ _ _ _ => pts_nil) (fun _ _ _ _ _ => (pe_ix ix_tup (pe_ix ix_tup (pv 2) pe_int (fun _ _ => rfl)) (pv 3) (fun _ _ => rfl)))) pa_nil)))), ?_⟩
  have ll := hp.2.1
  have l6 := hp.1.l6
  refine gr_ret ((gv_tupE (l := i.1.zip i.2) (f := fun p => tupI (p.1.2.getD p.2.toNat [])) (gl_lc2y (gi_zip2 (l := i.1) (m := i.2) (ea := kindD) (eb := .int) (ga_two (gv_var rfl h0) (gv_var rfl h1)) ll.symm) (by rw [List.length_zip]; omega) (fun _ _ => rfl) fun j z x y H1 hz a hx hy => ?_)).cast ?_)
  · have hm := List.mem_of_getElem? hz
    have ok := hp.2.2 z hm
    have hi : z.2.toNat < z.1.2.length := by omega
    refine gv_ixT (i := z.2.toNat) (ds := z.1.2.map tupI) (gv_ixT (i := 1) (gv_vd rfl hx) gv_int rfl rfl) (Gv.int_val (gv_vd rfl hy)) (by omega) ?_ row_list
    rw [List.getElem?_map, List.getElem?_eq_getElem hi, List.getD_eq_getElem?_getD, List.getElem?_eq_getElem hi]
    rfl
  · rw [amD, amOf, List.map_map]
    rfl

theorem sc_steps_between : FnScope ["fields", "one", "two", "kind", "here", "there"] ["fields", "one", "two"] (defScope s_steps_between) := ⟨rfl, rfl, rfl, by decide +kernel, rfl, by decide +kernel, by decide +kernel⟩
theorem ok_steps_between (T : Tx mg) (F : DfD K mg "steps_between" s_steps_between) (G_step_of : Gd P w K mg base "step_of" 1 sp_step_of) : Gd P w K mg base "steps_between" 2 sp_steps_between := gd_pure (N := ["fields", "one", "two", "kind", "here", "there"]) F sc_steps_between (fun _ _ _ _ _ _ us hl => match us, hl with | [_, _, _], _ => rfl) (fun _ => rfl) fun f cdv A outer s H H0 E vs i hr hv hp => by
  obtain ⟨v0, v1, v2, rfl, h0, h1, h2⟩ := isL3 hv
  refine ⟨_, (pss_one (ps_ret (pe_ct call_tuple_of T.tuple boot_tuple (pa_cons (pe_lc (own := [("kind", 3), ("here", 4), ("there", 5)]) (g := (g3 K 3 4 5)) (tt := tYes) (te := (tCall _ [] E0 (tCons (tVar 3) (tCons (tVar 4) (tCons (tVar 5) tNil))))) rfl sc_steps_between.nd (pi_zip3 (by rfl) T.zip (pa_cons (pv 0) (pa_cons (pv 1) (pa_cons (pv 2) pa_nil)))) (blkOk_by (N := ["fields", "one", "two", "kind", "here", "there"]) (sc := defScope s_steps_between) (by decide +kernel)) (fun _ _ _ _ _ => (pg_tup rfl (pgs_cons (pgn 3 sc_steps_between.nd) (pgs_cons (pgn 4 sc_steps_between.nd) (pgs_cons (pgn 5 sc_steps_between.nd) pgs_nil))))) (fun _ _ _ _ _ => pts_nil) (fun _ _ _ _ _ => (pe_gd G_step_of hr (pa_cons (pv 3) (pa_cons (pv 4) (pa_cons (pv 5) pa_nil)))))) pa_nil)))), ?_⟩
  have l1 := hp.2.1.1
  have l2 := hp.2.2.1
  have l6 := hp.1.l6
  refine gr_ret ((gv_tupE (l := i.1.zip (i.2.1.zip i.2.2)) (f := fun p => tupI (stp p.1.1 p.2.1 p.2.2)) (gl_lc3y (gi_zip3 (l := i.1) (m := i.2.1) (n := i.2.2) (ea := kindD) (eb := tupI) (ec := tupI) (ga_three (gv_var rfl h0) (gv_var rfl h1) (gv_var rfl h2)) (by omega) (by omega)) (by rw [List.length_zip, List.length_zip]; omega) (fun _ _ _ => rfl) fun j z x y u H1 hz a hx hy hu => ?_)).cast ?_)
  · obtain ⟨g1, g2⟩ := List.getElem?_zip_eq_some.mp hz
    obtain ⟨g2, g3⟩ := List.getElem?_zip_eq_some.mp g2
    exact gv_call z (ga_three (gv_vd rfl hx) (gv_vd rfl hy) (gv_vd rfl hu)) ⟨hp.1.k _ (List.mem_of_getElem? g1), (hp.2.1.2 (z.1, z.2.1) (List.mem_of_getElem? (zip_get g1 g2))).1, (hp.2.2.2 (z.1, z.2.2) (List.mem_of_getElem? (zip_get g1 g3))).1⟩
  · rw [amD, stps, List.map_map]
    rfl

theorem sc_amounts_behind : FnScope ["fields", "amounts", "steps", "kind", "amount", "step"] ["fields", "amounts", "steps"] (defScope s_amounts_behind) := ⟨rfl, rfl, rfl, by decide +kernel, rfl, by decide +kernel, by decide +kernel⟩
theorem ok_amounts_behind (T : Tx mg) (F : DfD K mg "amounts_behind" s_amounts_behind) (G_moved_by : Gd P w K mg base "moved_by" 1 sp_moved_by) : Gd P w K mg base "amounts_behind" 2 sp_amounts_behind := gd_pure (N := ["fields", "amounts", "steps", "kind", "amount", "step"]) F sc_amounts_behind (fun _ _ _ _ _ _ us hl => match us, hl with | [_, _, _], _ => rfl) (fun _ => rfl) fun f cdv A outer s H H0 E vs i hr hv hp => by
  obtain ⟨v0, v1, v2, rfl, h0, h1, h2⟩ := isL3 hv
  refine ⟨_, (pss_one (ps_ret (pe_ct call_tuple_of T.tuple boot_tuple (pa_cons (pe_lc (own := [("kind", 3), ("amount", 4), ("step", 5)]) (g := (g3 K 3 4 5)) (tt := tYes) (te := (tCall _ [] E0 (tCons (tVar 3) (tCons (tVar 4) (tCons (tVar 5) tNil))))) rfl sc_amounts_behind.nd (pi_zip3 (by rfl) T.zip (pa_cons (pv 0) (pa_cons (pv 1) (pa_cons (pv 2) pa_nil)))) (blkOk_by (N := ["fields", "amounts", "steps", "kind", "amount", "step"]) (sc := defScope s_amounts_behind) (by decide +kernel)) (fun _ _ _ _ _ => (pg_tup rfl (pgs_cons (pgn 3 sc_amounts_behind.nd) (pgs_cons (pgn 4 sc_amounts_behind.nd) (pgs_cons (pgn 5 sc_amounts_behind.nd) pgs_nil))))) (fun _ _ _ _ _ => pts_nil) (fun _ _ _ _ _ => (pe_gd G_moved_by hr (pa_cons (pv 3) (pa_cons (pv 4) (pa_cons (pv 5) pa_nil)))))) pa_nil)))), ?_⟩
  have l1 := hp.2.1.1
  have l2 := hp.2.2.1
  have l6 := hp.1.l6
  refine gr_ret ((gv_tupE (l := i.1.zip (i.2.1.zip i.2.2)) (f := fun p => tupI (put p.1.1 p.2.1 p.2.2)) (gl_lc3y (gi_zip3 (l := i.1) (m := i.2.1) (n := i.2.2) (ea := kindD) (eb := tupI) (ec := tupI) (ga_three (gv_var rfl h0) (gv_var rfl h1) (gv_var rfl h2)) (by omega) (by omega)) (by rw [List.length_zip, List.length_zip]; omega) (fun _ _ _ => rfl) fun j z x y u H1 hz a hx hy hu => ?_)).cast ?_)
  · obtain ⟨g1, g2⟩ := List.getElem?_zip_eq_some.mp hz
    obtain ⟨g2, g3⟩ := List.getElem?_zip_eq_some.mp g2
    exact gv_call z (ga_three (gv_vd rfl hx) (gv_vd rfl hy) (gv_vd rfl hu)) ⟨hp.1.k _ (List.mem_of_getElem? g1), (hp.2.1.2 (z.1, z.2.1) (List.mem_of_getElem? (zip_get g1 g2))).1, (hp.2.2.2 (z.1, z.2.2) (List.mem_of_getElem? (zip_get g1 g3))).1⟩
  · rw [amD, puts, List.map_map]
    rfl

theorem sc_record_at : FnScope ["fields", "amounts", "kind", "amount"] ["fields", "amounts"] (defScope s_record_at) := ⟨rfl, rfl, rfl, by decide +kernel, rfl, by decide +kernel, by decide +kernel⟩
theorem ok_record_at (T : Tx mg) (F : DfD K mg "record_at" s_record_at) (G_state_of : Gd P w K mg base "state_of" 1 sp_state_of) : Gd P w K mg base "record_at" 2 sp_record_at := gd_pure (N := ["fields", "amounts", "kind", "amount"]) F sc_record_at (fun _ _ _ _ _ _ us hl => match us, hl with | [_, _], _ => rfl) (fun _ => rfl) fun f cdv A outer s H H0 E vs i hr hv hp => by
  obtain ⟨v0, v1, rfl, h0, h1⟩ := isL2 hv
  refine ⟨_, (pss_one (ps_ret (pe_ct call_tuple_of T.tuple boot_tuple (pa_cons (pe_lc (own := [("kind", 2), ("amount", 3)]) (g := (g2 K 2 3)) (tt := tYes) (te := (tCall _ [] E0 (tCons (tVar 2) (tCons (tVar 3) tNil)))) rfl sc_record_at.nd (RZ.pi_zipA (by rfl) T.zip (pa_cons (pv 0) (pa_cons (pv 1) pa_nil))) (blkOk_by (N := ["fields", "amounts", "kind", "amount"]) (sc := defScope s_record_at) (by decide +kernel)) (fun _ _ _ _ _ => (pg_tup rfl (pgs_cons (pgn 2 sc_record_at.nd) (pgs_cons (pgn 3 sc_record_at.nd) pgs_nil)))) (fun _ _ _ _ _ => pts_nil) (fun _ _ _ _ _ => (pe_gd G_state_of hr (pa_cons (pv 2) (pa_cons (pv 3) pa_nil))))) pa_nil)))), ?_⟩
  have ll := hp.2.1
  have l6 := hp.1.l6
  refine gr_ret ((gv_tupE (l := i.1.zip i.2) (f := fun p => oD (kst p.1 p.2)) (gl_lc2y (gi_zip2 (l := i.1) (m := i.2) (ea := kindD) (eb := tupI) (ga_two (gv_var rfl h0) (gv_var rfl h1)) ll.symm) (by rw [List.length_zip]; omega) (fun _ _ => rfl) fun j z x y H1 hz a hx hy => ?_)).cast ?_)
  · exact gv_call z (ga_two (gv_vd rfl hx) (gv_vd rfl hy)) (hp.1.k _ (List.of_mem_zip (List.mem_of_getElem? hz)).1)
  · rw [recD, recAt, List.map_map]
    rfl

theorem sc_is_id : FnScope ["thing"] ["thing"] (defScope s_is_id) := ⟨rfl, rfl, rfl, by decide +kernel, rfl, by decide +kernel, by decide +kernel⟩
theorem ok_is_id (T : Tx mg) (F : DfD K mg "is_id" s_is_id) (G_is_below : Gd P w K mg base "is_below" 3 sp_is_below) (G_is_name : Gd P w K mg base "is_name" 1 sp_is_name) : Gd P w K mg base "is_id" 4 sp_is_id := gd_pure (N := ["thing"]) F sc_is_id (fun _ _ _ _ _ _ us hl => match us, hl with | [_], _ => rfl) (fun _ => rfl) fun f cdv A outer s H H0 E vs i hr hv hp => by
  obtain ⟨v0, rfl, h0⟩ := isL1 hv
  refine ⟨_, (pss_one (ps_ret (pe_and (pe_cb call_isi T.isinstance boot_isinstance (pa_cons (pv 0) (pa_cons (pe_ty T.tuple boot_tuple) pa_nil))) (pe_and (pe_cmpR op_eq (pe_cb call_len_seq T.len boot_len (pa_cons (pv 0) pa_nil)) pe_int (nomark _)) (pe_and (pe_gd G_is_name hr (pa_cons (pe_ix ix_tup (pv 0) pe_int (fun _ _ => rfl)) pa_nil)) (pe_one (pe_gd G_is_below hr (pa_cons (pe_ix ix_tup (pv 0) pe_int (fun _ _ => rfl)) (pa_cons (pe_gi T.MOST_EDITS_replicas) pa_nil))))))))), ?_⟩
  have hq : i % 400 < 400 := Nat.mod_lt _ (by decide)
  exact gr_ret ((gv_andV (gv_isiT (r := true) (ds := [.str (hnd (i / 400)), .int ((i % 400 : Nat) : Int)]) (gv_var rfl h0) (by decide +kernel)) fun _ => gv_andV (gv_op (gv_lenT (ds := [.str (hnd (i / 400)), .int ((i % 400 : Nat) : Int)]) (gv_var rfl h0)) gv_int (rg_eq rfl)) fun _ =>
    gv_andV (gv_call (hnd (i / 400)) (ga_one (Gv.str_val (gv_ixT (i := 0) (gv_var rfl h0) gv_int rfl rfl))) (hnd_name _)) fun _ => gv_call (((i % 400 : Nat) : Int), (400 : Int)) (ga_two (Gv.int_val (gv_ixT (i := 1) (gv_var rfl h0) gv_int rfl rfl)) gv_int) ⟨by show (0 : Int) ≤ ((i % 400 : Nat) : Int); omega, by show ((i % 400 : Nat) : Int) < 400; omega⟩).bl_cast (by simp))

theorem sc_is_ids : FnScope ["thing", "at", "one"] ["thing"] (defScope s_is_ids) := ⟨rfl, rfl, rfl, by decide +kernel, rfl, by decide +kernel, by decide +kernel⟩
theorem ok_is_ids (T : Tx mg) (F : DfD K mg "is_ids" s_is_ids) (G_is_id : Gd P w K mg base "is_id" 4 sp_is_id) : Gd P w K mg base "is_ids" 5 sp_is_ids := gd_pure (N := ["thing", "at", "one"]) F sc_is_ids (fun _ _ _ _ _ _ us hl => match us, hl with | [_], _ => rfl) (fun _ => rfl) fun f cdv A outer s H H0 E vs i hr hv hp => by
  obtain ⟨v0, rfl, h0⟩ := isL1 hv
  refine ⟨_, (pss_cons (ps_if (pt_pw (pw_or (pt_not (pt_val (pe_cb call_isi T.isinstance boot_isinstance (pa_cons (pv 0) (pa_cons (pe_ty T.tuple boot_tuple) pa_nil))))) (pw_or1 (pt_not (pt_val (pe_cb (cr_all rfl) T.all boot_all (pa_cons (pe_lc (own := [("one", 2)]) (g := (gName 2)) (tt := tYes) (te := (tCall _ [] E0 (tCons (tVar 2) tNil))) rfl sc_is_ids.nd (pi_tup (pv 0)) (blkOk_by (N := ["thing", "at", "one"]) (sc := defScope s_is_ids) (by decide +kernel)) (fun _ _ _ _ _ => (pgn 2 sc_is_ids.nd)) (fun _ _ _ _ _ => pts_nil) (fun _ _ _ _ _ => (pe_gd G_is_id hr (pa_cons (pv 2) pa_nil)))) pa_nil))))))) (pss_one (ps_ret pe_bl)) pss_nil)
    (pss_one (ps_ret (pe_cb (cr_all rfl) T.all boot_all (pa_cons (pe_lc (own := [("at", 1)]) (g := (gName 1)) (tt := tYes) (te := (tOp (rLtD K) (tOp (rIxT K) (tVar 0) (tOp _ (tVar 1) (tC _))) (tOp (rIxT K) (tVar 0) (tVar 1)))) rfl sc_is_ids.nd (pi_range2 (by rfl) T.range (pa_cons pe_int (pa_cons (pe_cb call_len_seq T.len boot_len (pa_cons (pv 0) pa_nil)) pa_nil))) (blkOk_by (N := ["thing", "at", "one"]) (sc := defScope s_is_ids) (by decide +kernel)) (fun _ _ _ _ _ => (pgn 1 sc_is_ids.nd)) (fun _ _ _ _ _ => pts_nil) (fun _ _ _ _ _ => (pe_cmpR (op_ltD hr) (pe_ix ix_tup (pv 0) (pe_op op_sub (pv 1) pe_int) (fun _ _ => rfl)) (pe_ix ix_tup (pv 0) (pv 1) (fun _ _ => rfl)) (nomark _)))) pa_nil))))), ?_⟩
  refine gr_ifR (b := false) ((gt_or (gt_not (gt_B (gv_isiT (r := true) (ds := i.map idD) (gv_var rfl h0) (by decide +kernel)))) fun _ => gt_not (gt_B (gv_allT (l := i) (gl_lc1y (gi_tup (l := i) (enc := idD) (gv_var rfl h0) ) (Nat.le_trans hp.len (by decide)) (fun _ => rfl) fun j z x H1 hz a hy => gv_call z (ga_one (gv_vd rfl hy)) (hp.1 z (List.mem_of_getElem? hz)))))).cast rfl) (fun e => nomatch e) (fun _ => gn_next) fun _ => ?_
  refine gr_ret (gv_allT (l := List.range ((i.length : Int) - 1).toNat) (gl_lc1y (gi_rng2 (lo := 1) (hi' := (i.length : Int)) (ga_two gv_int (gv_lenT (ds := i.map idD) (gv_var rfl h0)|>.int_cast (by rw [List.length_map]))) (by decide) (by have := hp.len; omega)) (by rw [List.length_range]; have := hp.len; omega) (fun _ => rfl) fun j z x H1 hz a hy => ?_))
  have hx : x = .int (1 + (z : Int)) := hy
  subst hx
  have hz' := step_get hz
  obtain ⟨u, hu⟩ := some_get (l := i) (z := z) (by omega)
  obtain ⟨y, hy2⟩ := some_get hz'
  have lt := pw_get hp.2 hu hy2
  have hu' := List.mem_of_getElem? hu
  have hy' := List.mem_of_getElem? hy2
  exact (gv_op (gv_ixT (i := z) (ds := i.map idD) (gv_var rfl (h0.to a)) (gv_op (gv_val rfl) gv_int rg_I0) (by omega) (idsD_get hu)) (gv_ixT (i := z + 1) (ds := i.map idD) (gv_var rfl (h0.to a)) (gv_val rfl) (by omega) (idsD_get hy2)) (rg_ltD (id_alike _ _) (fun e => nomatch e) pl_id pl_id)).bl_cast (by rw [id_lt (hp.1 _ hu') (hp.1 _ hy')]; exact decide_eq_true lt)

theorem sc_want_ids : FnScope ["thing"] ["thing"] (defScope s_want_ids) := ⟨rfl, rfl, rfl, by decide +kernel, rfl, by decide +kernel, by decide +kernel⟩
theorem ok_want_ids (T : Tx mg) (F : DfD K mg "want_ids" s_want_ids) (G_is_ids : Gd P w K mg base "is_ids" 5 sp_is_ids) : Gd P w K mg base "want_ids" 6 sp_want_ids := gd_none (N := ["thing"]) F sc_want_ids (fun _ _ _ _ _ _ us hl => match us, hl with | [_], _ => rfl) (fun _ => rfl) fun f cdv A outer s H H0 E vs i hr hv hp => by
  obtain ⟨v0, rfl, h0⟩ := isL1 hv
  refine ⟨_, (pss_one (ps_if (pt_not (pt_val (pe_gd G_is_ids hr (pa_cons (pv 0) pa_nil)))) pss_never pss_nil)), ?_⟩
  exact (gn_skip (gt_no (gt_B (gv_call i (ga_one (gv_var rfl h0)) hp)))).gf

end
end Ed

set_option maxHeartbeats 1000000
/-! EdSrc: the source of draws as a system; evaluations to something unknown; zips by places. -/
namespace Ed
open PySem PySem.Spec PyProof.Rows L2
section
variable {S : Sys} {H H' H1 H2 : Hp} {σ : L2.St} {te ta tb tc tl : TE} {tt : TT} {tr : TA} {o p q : Ob} {os ps : List Ob} {b c : Bool} {v x y z : V} {K : PySem.W.Frag} {d e : PyData} {ds es : List PyData}
variable {α β γ : Type} {wi : TI}
theorem gv_int1 {i : Int} (h : Gv S te σ H (.val (.int i))) : Gv S (tCB (fun xs H Q => (∃ i, xs = [.int i] ∧ Q (.int i) H) ∨ ∃ k, xs = [.bl k] ∧ Q (.int (if k then 1 else 0)) H) (tCons te tNil)) σ H (.val (.int i)) := fun H1 a Q k =>
  h H1 a _ fun v H2 a2 hv => .inl ⟨i, by rw [show v = V.int i from hv], k _ H2 a2 rfl⟩
theorem gv_intB {i : Bool} (h : Gv S te σ H (.val (.bl i))) : Gv S (tCB (fun xs H Q => (∃ i, xs = [.int i] ∧ Q (.int i) H) ∨ ∃ k, xs = [.bl k] ∧ Q (.int (if k then 1 else 0)) H) (tCons te tNil)) σ H (.val (.int (if i then 1 else 0))) := fun H1 a Q k =>
  h H1 a _ fun v H2 a2 hv => .inr ⟨i, by rw [show v = V.bl i from hv], k _ H2 a2 rfl⟩
theorem zip_range2 {δ : Type} {a : List α} {b : List β} {f : α × β → δ} {n : Nat} (ha : a.length = n) (hb : b.length = n) (x : α) (y : β) : (a.zip b).map f = (List.range n).map fun k => f (a.getD k x, b.getD k y) := by
  apply List.ext_getElem?
  intro k
  rw [List.getElem?_map, List.getElem?_map]
  by_cases hk : k < n
  · rw [List.getElem?_range hk, zip_get (List.getElem?_eq_getElem (by omega)) (List.getElem?_eq_getElem (by omega))]
    show some (f (a[k], b[k])) = some (f (a.getD k x, b.getD k y))
    rw [List.getD_eq_getElem?_getD, List.getD_eq_getElem?_getD, List.getElem?_eq_getElem (by omega), List.getElem?_eq_getElem (by omega)]
    rfl
  · rw [List.getElem?_eq_none (by rw [List.length_zip]; omega), List.getElem?_eq_none (by rw [List.length_range]; omega)]
    rfl
theorem zip_range3 {δ : Type} {a : List α} {b : List β} {c : List γ} {f : α × β × γ → δ} {n : Nat} (ha : a.length = n) (hb : b.length = n) (hc : c.length = n) (x : α) (y : β) (z : γ) : (a.zip (b.zip c)).map f = (List.range n).map fun k => f (a.getD k x, b.getD k y, c.getD k z) := by
  rw [zip_range2 (b := b.zip c) (n := n) ha (by rw [List.length_zip]; omega) x (y, z)]
  refine List.map_congr_left fun k hk => ?_
  have hk := List.mem_range.mp hk
  congr 2
  rw [List.getD_eq_getElem?_getD, zip_get (List.getElem?_eq_getElem (by omega)) (List.getElem?_eq_getElem (by omega)), List.getD_eq_getElem?_getD, List.getD_eq_getElem?_getD, List.getElem?_eq_getElem (by omega), List.getElem?_eq_getElem (by omega)]
  rfl
theorem map_getD {f : α → β} {l : List α} {k : Nat} (h : k < l.length) (x : α) : (l.map f)[k]? = some (f (l.getD k x)) := by
  rw [List.getElem?_map, List.getElem?_eq_getElem h, List.getD_eq_getElem?_getD, List.getElem?_eq_getElem h]
  rfl
theorem getD_mem {l : List α} {k : Nat} (h : k < l.length) (x : α) : l.getD k x ∈ l := by
  rw [List.getD_eq_getElem?_getD, List.getElem?_eq_getElem h]
  exact List.getElem_mem h
theorem zip_mem {a : List α} {b : List β} {k : Nat} (ha : k < a.length) (hb : k < b.length) (x : α) (y : β) : (a.getD k x, b.getD k y) ∈ a.zip b := by
  refine List.mem_of_getElem? (i := k) (zip_get ?_ ?_)
  · rw [List.getD_eq_getElem?_getD, List.getElem?_eq_getElem ha]; rfl
  · rw [List.getD_eq_getElem?_getD, List.getElem?_eq_getElem hb]; rfl
/-! the source -/
def SrcOk (src : Addr) (H : Hp) : Prop := ∃ b m : Int, H src = some (.lst [.int b, .int m]) ∧ 0 ≤ b ∧ 0 ≤ m ∧ m < 2147483647
def SS (src : Addr) : Sys where
  M := fun a => a = src
  J := SrcOk src
  mt := fun H a ⟨b, m, h, _⟩ e => ⟨_, e ▸ h, rfl⟩
  loc := fun H H' ⟨b, m, h, q⟩ k => ⟨b, m, (k src rfl).trans h, q⟩
/-- evaluates to something that R tells -/
def Ge (S : Sys) (te : TE) (σ : L2.St) (H : Hp) (R : V → Hp → Prop) : Prop := ∀ H1, S.T H H1 → ∀ Q : VK, (∀ v H2, S.T H1 H2 → R v H2 → Q v H2) → te σ H1 Q
theorem Ge.mono {R : V → Hp → Prop} (h : Ge S te σ H R) (a : S.T H H1) : Ge S te σ H1 R := fun H2 b => h H2 (a.trans b)
theorem Ge.imp {R R' : V → Hp → Prop} (h : Ge S te σ H R) (k : ∀ v H1, S.T H H1 → R v H1 → R' v H1) : Ge S te σ H R' := fun H1 a Q q => h H1 a Q fun v H2 a2 r => q v H2 a2 (k v H2 (a.trans a2) r)
theorem Gv.ge (h : Gv S te σ H o) : Ge S te σ H fun v H => Is H v o := h
def GeT (S : Sys) (tt : TT) (σ : L2.St) (H : Hp) (R : Bool → Prop) : Prop := ∀ H1, S.T H H1 → ∀ Q : Bool → Hp → Prop, (∀ b H2, S.T H1 H2 → R b → Q b H2) → tt σ H1 Q
/-- a comprehension whose items (and whose number) are not told one by one: Inv tells the list after so many turns -/
theorem ge_lcN {g : TG} {vs : List Nat} {Pn : Nat → Prop} {Y : Nat → V → Hp → Prop} {Inv : Nat → List Ob → Prop} (hw : GvI S wi σ H fun J H1 => ∃ n, Pn n ∧ Wk S J n Y H1) (hn : ∀ n, Pn n → n ≤ 100000) (h0 : Inv 0 []) (hlen : ∀ i os, Inv i os → os.length ≤ i)
    (turn : ∀ n i x H1 acc, Pn n → i < n → S.T H H1 → Y i x H1 → Inv i acc → ∃ σ2, (∀ Q : L2.St → Hp → Prop, Q σ2 H1 → g x (wipe σ vs) H1 Q) ∧ wipe σ2 vs = wipe σ vs ∧
      ∀ H2, S.T H1 H2 → ∀ Q : Bool → Hp → Prop, (∀ H3, S.T H2 H3 → Inv (i + 1) acc → Q false H3) → (∀ H3, S.T H2 H3 → Ge S te σ2 H3 (fun v H' => ∃ o, Is H' v o ∧ Inv (i + 1) (acc ++ [o])) → Q true H3) → tt σ2 H2 Q) :
    Ge S (tLc wi g tt te vs) σ H fun v H' => ∃ n p xs os, Pn n ∧ v = .ref p ∧ H p = none ∧ H' p = some (.lst xs) ∧ IsL H' xs os ∧ Inv n os := fun H1 a Q k => by
  refine hw H1 a _ fun J H2 a2 ⟨n, pn, w⟩ D hD => ?_
  have nD : ¬ S.M D := S.notM a2.j' hD
  refine ⟨fun i m H' => m = n - i ∧ i ≤ n ∧ ∃ xs os, S.T H2 H' ∧ H' D = some (.lst xs) ∧ IsL H' xs os ∧ Inv i os, ⟨n, rfl, Nat.zero_le _, [], [], .new a2.j' hD, upd_same, .nil, h0⟩, ?_⟩
  rintro i m H3 ⟨rfl, hi, xs, os, a3, hx, hl, hv⟩
  by_cases hlt : i < n
  · refine .inr ⟨w.go i H3 hlt a3, fun H' => ∃ ys os, S.T H2 H' ∧ H' D = some (.lst ys) ∧ IsL H' ys os ∧ Inv (i + 1) os, fun H' ⟨ys, os', h1, h2, h3, h4⟩ => ⟨n - (i + 1), by omega, rfl, hlt, ys, os', h1, h2, h3, h4⟩, fun x H4 yy => ?_⟩
    obtain ⟨a4, s4, hy⟩ := w.yld i x H3 H4 hlt a3 yy
    obtain ⟨σ2, hg, hwp, ht⟩ := turn n i x H4 os pn hlt ((a.trans a2).trans (a3.trans a4)) hy hv
    refine hg _ ⟨hwp, ht H4 a4.fin _ (fun H5 a5 iv => ?_) fun H5 a5 ge => ?_⟩
    · exact ⟨xs, os, a3.trans (a4.trans a5), a5.k D _ nD (a4.k D _ nD hx), hl.to (a4.trans a5), iv⟩
    · refine ge H5 a5.fin _ fun v H6 a6 ⟨o, hv', iv⟩ => ?_
      have a56 := a4.trans (a5.trans a6)
      have e6 : H6 D = some (.lst xs) := a56.k D _ nD hx
      refine ⟨xs, e6, Nat.lt_of_le_of_lt (by rw [hl.length]; exact Nat.le_trans (hlen i os hv) hi) (Nat.lt_of_le_of_lt (hn n pn) (by decide)), xs ++ [v], os ++ [o], (a3.trans a56).mut hD, upd_same, ?_, iv⟩
      have tp : Tups H6 (upd H6 D (.lst (xs ++ [v]))) := by
        refine ⟨fun b ys e => ?_, fun b o u e => ?_⟩
        · rw [upd_ne fun z => ?_]
          · exact e
          · rw [z, e6] at e
            cases e
        · rw [upd_ne fun z => ?_]
          · exact e
          · rw [z, e6] at e
            cases e
      exact ((hl.to a56).mono tp).append (.one (hv'.mono tp))
  · have e : i = n := by omega
    subst e
    exact .inl ⟨w.stop H3 a3, k _ H3 (a2.trans a3) ⟨_, D, xs, os, pn, rfl, a.free (a2.free hD), hx, hl, hv⟩⟩
theorem GvI.num {n : Nat} {Y : Nat → V → Hp → Prop} (h : GvI S wi σ H fun J H1 => Wk S J n Y H1) : GvI S wi σ H fun J H1 => ∃ m, m = n ∧ Wk S J m Y H1 := fun H1 a R k => h H1 a R fun J H2 a2 w => k J H2 a2 ⟨n, rfl, w⟩
/-- tuple([..]) of such a comprehension -/
theorem ge_tuple {C : List PyData → Prop} (h : Ge S te σ H fun v H' => ∃ p xs ds, v = .ref p ∧ H' p = some (.lst xs) ∧ IsL H' xs (ds.map Ob.dat) ∧ C ds) : Ge S (tCB (rTupOf K) (tCons te tNil)) σ H fun v H' => ∃ ds, Rep H' v (.tuple ds) ∧ C ds := fun H1 a Q k =>
  h H1 a _ fun v H2 a2 ⟨p, xs, ds, e, hx, hl, c⟩ => by
    subst e
    exact ⟨p, xs, rfl, .inl ⟨SqL.of hx, fun l hl' => k _ _ (a2.trans (.new a2.j' hl')) ⟨ds, .tup upd_same (hl.to (.new (S := S) a2.j' hl')).reps, c⟩⟩⟩
/-- range(e), e not told -/
theorem gi_rngE {Pn : Nat → Prop} (h : Ge S te σ H fun v _ => ∃ n : Nat, v = .int (n : Int) ∧ Pn n) (hn : ∀ n, Pn n → n ≤ 100000) : GvI S (iRng1 (tCons te tNil)) σ H fun J H1 => ∃ n, Pn n ∧ Wk S J n (fun i x _ => x = .int (i : Int)) H1 := fun H1 a R k =>
  h H1 a _ fun v H2 a2 ⟨n, e, pn⟩ => by
    subst e
    have := hn n pn
    refine ⟨n, rfl, by omega, by omega, k _ H2 a2 ⟨n, pn, ?_⟩⟩
    rw [Int.toNat_natCast]
    refine ⟨fun i H' hi a3 => hi, fun H' a3 => Nat.le_refl _, fun i x H' H'' hi a3 y => ?_⟩
    obtain ⟨rfl, rfl⟩ := y
    exact ⟨a3.fin, Same.refl _, by rw [Int.zero_add]⟩
theorem isL_val {H : Hp} : ∀ {xs : List V}, IsL H xs (xs.map Ob.val)
  | [] => .nil
  | _ :: _ => .cons rfl isL_val
theorem val_isL {H : Hp} : ∀ {xs ys : List V}, IsL H ys (xs.map Ob.val) → ys = xs
  | [], _, h => by cases h; rfl
  | x :: xs, _, h => by
    cases h with
    | cons h t => rw [show _ = x from h, val_isL t]
/-- returns something that R tells -/
def GrE (S : Sys) (ts : TS) (σ : L2.St) (H : Hp) (R : V → Hp → Prop) : Prop := ∀ H1, S.T H H1 → ∀ D : Ends, (∀ v H2, S.T H1 H2 → R v H2 → D.rt v H2) → ts D σ H1
theorem gre_ret {R : V → Hp → Prop} (h : Ge S te σ H R) : GrE S (tRet te) σ H R := fun H1 a D k => h H1 a D.rt k
theorem gre_set {R R' : V → Hp → Prop} {tu : TS} {i : Nat} (h : Ge S te σ H R) (h2 : ∀ v H1, S.T H H1 → R v H1 → GrE S tu (σ.set i (some v)) H1 R') : GrE S (tSeq (tAsg te (gName i)) tu) σ H R' := fun H1 a D k =>
  h H1 a _ fun v H2 a2 hv => h2 v H2 (a.trans a2) hv H2 a2.fin D fun u H3 a3 e => k u H3 (a2.trans a3) e
/-! goes on, to a state that N tells -/
def Gx (S : Sys) (ts : TS) (σ : L2.St) (H : Hp) (N : L2.St → Hp → Prop) : Prop := ∀ H1, S.T H H1 → ∀ D : Ends, (∀ σ' H2, S.T H1 H2 → N σ' H2 → D.nx σ' H2) → ts D σ H1
section
variable {N N' : L2.St → Hp → Prop} {R R' : V → Hp → Prop} {ts tu tw : TS} {g : TG} {l : List α} {Y : α → V → Hp → Prop}
theorem Gn.gx (h : Gn S ts σ H) : Gx S ts σ H (fun σ' _ => σ' = σ) := fun H1 a D k => h H1 a D fun H2 a2 => k σ H2 a2 rfl
theorem gx_set {i : Nat} (h : Ge S te σ H R) : Gx S (tAsg te (gName i)) σ H (fun σ' H' => ∃ v, R v H' ∧ σ' = σ.set i (some v)) := fun H1 a D k => h H1 a _ fun v H2 a2 r => k _ H2 a2 ⟨v, r, rfl⟩
theorem gx_next : Gx S tNext σ H (fun σ' _ => σ' = σ) := gn_next.gx
theorem gx_drop (h : Ge S te σ H R) : Gx S (tDrop te) σ H (fun σ' H' => σ' = σ ∧ ∃ v, R v H') := fun H1 a D k => h H1 a _ fun v H2 a2 r => k σ H2 a2 ⟨rfl, v, r⟩
theorem Gx.imp (h : Gx S ts σ H N) (k : ∀ σ' H1, S.T H H1 → N σ' H1 → N' σ' H1) : Gx S ts σ H N' := fun H1 a D q => h H1 a D fun σ' H2 a2 r => q σ' H2 a2 (k σ' H2 (a.trans a2) r)
theorem gx_if (h : GvT S tt σ H b) (h1 : b = true → Gx S ts σ H N) (h2 : b = false → Gx S tu σ H N) : Gx S (tIfS tt ts tu) σ H N := fun H1 a D k => h H1 a _ fun H2 a2 => by
  cases b with
  | true => exact h1 rfl H2 (a.trans a2) D fun σ' H3 a3 e => k σ' H3 (a2.trans a3) e
  | false => exact h2 rfl H2 (a.trans a2) D fun σ' H3 a3 e => k σ' H3 (a2.trans a3) e
theorem gx_seq (h : Gx S ts σ H N) (h2 : ∀ σ' H1, S.T H H1 → N σ' H1 → Gx S tu σ' H1 N') : Gx S (tSeq ts tu) σ H N' := fun H1 a D k => h H1 a _ fun σ' H2 a2 n => h2 σ' H2 (a.trans a2) n H2 a2.fin D fun σ'' H3 a3 e => k σ'' H3 (a2.trans a3) e
theorem gre_seq (h : Gx S ts σ H N) (h2 : ∀ σ' H1, S.T H H1 → N σ' H1 → GrE S tu σ' H1 R) : GrE S (tSeq ts tu) σ H R := fun H1 a D k => h H1 a _ fun σ' H2 a2 n => h2 σ' H2 (a.trans a2) n H2 a2.fin D fun v H3 a3 e => k v H3 (a2.trans a3) e
theorem Gr.gre (h : Gr S ts σ H o) : GrE S ts σ H fun v H => Is H v o := h
theorem GrE.imp (h : GrE S ts σ H R) (k : ∀ v H1, S.T H H1 → R v H1 → R' v H1) : GrE S ts σ H R' := fun H1 a D q => h H1 a D fun v H2 a2 r => q v H2 a2 (k v H2 (a.trans a2) r)
/-- by a call -/
theorem ge_call {sp : Sp} (h : GvA S tr σ H os) (k : ∀ H1 vs, S.T H H1 → IsL H1 vs os → ∀ Q : VK, (∀ v H2, S.T H1 H2 → R v H2 → Q v H2) → sp vs H1 Q E0) : Ge S (tCall sp [] E0 tr) σ H R := fun H1 a Q q =>
  h H1 a _ fun vs H2 a2 hvs => by
    rw [List.append_nil]
    exact k H2 vs (a.trans a2) hvs Q fun v H3 a3 r => q v H3 (a2.trans a3) r
/-- a loop with its state -/
theorem gx_for (hw : GvI S wi σ H fun J H1 => WkL S J l Y H1) (Pv : Nat → L2.St → Hp → Prop) (h0 : ∀ H1, S.T H H1 → Pv 0 σ H1)
    (turn : ∀ (i : Nat) z x σ' H', l[i]? = some z → S.T H H' → (∃ H0, Pv i σ' H0 ∧ S.T H0 H' ∧ Same H0 H') → Y z x H' → ∃ σ2, (∀ Q : L2.St → Hp → Prop, Q σ2 H' → g x σ' H' Q) ∧ Gx S tu σ2 H' (Pv (i + 1))) :
    Gx S (tFor wi g tu) σ H (Pv l.length) := fun H1 a D k =>
  gs_for (S := S) (D := D) (fun H2 a2 => hw H2 (a.trans a2)) a.j' (fun Hs i σ' H' => Pv i σ' H' ∧ S.T Hs H') (fun H2 a2 => ⟨h0 H2 (a.trans a2), a2.fin⟩) (fun H2 i σ' H' a2 q => q.2)
    (fun H2 i z x σ' H' H'' a2 hz ⟨q1, q2⟩ a3 s3 hy => by
      have aa := (a.trans a2).trans (q2.trans a3)
      obtain ⟨σ2, h1, h3⟩ := turn i z x σ' H'' hz aa ⟨H', q1, a3, s3⟩ hy
      exact h1 _ (h3 H'' aa.fin _ fun σ3 H3 a4 p => ⟨p, (q2.trans a3).trans a4⟩))
    fun H2 σ' H' a2 ⟨q1, q2⟩ => k σ' H' (a2.trans q2) q1
end
/-! one more list that may change -/
def Sys.add (S : Sys) (p : Addr) : Sys where
  M := fun a => S.M a ∨ a = p
  J := fun H => S.J H ∧ ¬ S.M p ∧ ∃ xs, H p = some (.lst xs)
  mt := fun H a j m => m.elim (S.mt H a j.1) fun e => by
    obtain ⟨_, _, xs, h⟩ := j
    exact ⟨_, e ▸ h, rfl⟩
  loc := fun H H' ⟨j, n, xs, h⟩ k => ⟨S.loc H H' j fun a m => k a (.inl m), n, xs, (k p (.inr rfl)).trans h⟩
/-- behind the list's making -/
theorem Sys.T.drop {p : Addr} (a : S.T H H1) (hp : H p = none) (b : (S.add p).T H1 H2) : S.T H H2 :=
  ⟨a.j, b.j'.1, fun x o n e => b.k x o (fun m => m.elim n fun z => by rw [z, hp] at e; cases e) (a.k x o n e)⟩
theorem Sys.T.lift {p : Addr} (j : (S.add p).J H) (b : S.T H H2) : (S.add p).T H H2 := by
  obtain ⟨_, n, xs, h⟩ := j
  exact ⟨⟨b.j, n, xs, h⟩, ⟨b.j', n, xs, b.k p _ n h⟩, fun x o m e => b.k x o (fun z => m (.inl z)) e⟩
/-- the list changes -/
theorem Sys.T.put {p : Addr} {xs : List V} (j : (S.add p).J H) : (S.add p).T H (upd H p (.lst xs)) := by
  obtain ⟨j, n, ys, h⟩ := j
  refine ⟨⟨j, n, ys, h⟩, ⟨S.loc H _ j fun a m => upd_ne fun e => n (e ▸ m), n, xs, upd_same⟩, fun x o m e => ?_⟩
  rw [upd_ne fun z => m (.inr z)]
  exact e
theorem Sys.add_mk {p : Addr} {xs : List V} (j : S.J H) (n : ¬ S.M p) (h : H p = some (.lst xs)) : (S.add p).J H := ⟨j, n, xs, h⟩
/-! a system that has the source -/
structure HasSrc (src : Addr) (S : Sys) : Prop where
  j : ∀ H, S.J H → SrcOk src H
  m : S.M src
  k : ∀ H H', S.J H → (SS src).T H H' → S.J H'
theorem HasSrc.t {src : Addr} (h : HasSrc src S) (j : S.J H) (a : (SS src).T H H') : S.T H H' := ⟨j, h.k _ _ j a, fun x o n e => a.k x o (fun z => n (show S.M x from (show x = src from z) ▸ h.m)) e⟩
theorem hasSS {src : Addr} : HasSrc src (SS src) := ⟨fun _ j => j, rfl, fun _ _ _ a => a.j'⟩
theorem HasSrc.add {src p : Addr} (h : HasSrc src S) : HasSrc src (S.add p) := ⟨fun H j => h.j H j.1, .inl h.m, fun H H' ⟨j, n, xs, e⟩ a => ⟨h.k H H' j a, n, xs, (h.t j a).k p _ n e⟩⟩
theorem SS.of {src : Addr} (j : SrcOk src H) (s : Same H H1) : (SS src).T H H1 := .of_same j s
/-! lists that S may keep frozen -/
theorem gv_lenQ {a : Addr} {xs : List V} (h : Gv S te σ H (.val (.ref a))) (ha : ∀ H1, S.T H H1 → SqL K H1 a xs) : Gv S (tCB (rLenSq K) (tCons te tNil)) σ H (.val (.int (xs.length : Int))) := fun H1 b Q k =>
  h H1 b _ fun v H2 b2 hv => by
    cases hv
    exact ⟨a, xs, rfl, .inl (ha H2 (b.trans b2)), k _ H2 b2 rfl⟩
theorem gv_ixQ {a : Addr} {xs : List V} {i : Nat} {j : Int} (h : Gv S te σ H (.val (.ref a))) (hb : Gv S tb σ H (.val (.int j))) (e : j = (i : Int)) (ha : ∀ H1, S.T H H1 → SqL K H1 a xs) (hx : xs[i]? = some v) (hv : Is H v o) : Gv S (tOp (rIxL K) te tb) σ H o := fun H1 b Q k =>
  h H1 b _ fun v1 H2 b2 hv1 => hb H2 (b.trans b2) _ fun v2 H3 b3 hv2 => by
    cases hv1
    cases hv2
    have bb := (b.trans b2).trans b3
    exact ⟨a, xs, _, v, rfl, rfl, ha H3 bb, e ▸ atI_nat hx, k v H3 (b2.trans b3) (hv.to bb)⟩
theorem reps_perm {ys xs : List V} {ds : List PyData} (h : ys.Perm xs) : Reps H xs ds → ∃ es : List PyData, es.Perm ds ∧ Reps H ys es := by
  induction h generalizing ds with
  | nil => intro r; exact ⟨ds, .refl _, r⟩
  | cons x p ih =>
    intro r
    cases r with
    | cons h r =>
      obtain ⟨es, p2, r2⟩ := ih r
      exact ⟨_ :: es, p2.cons _, .cons h r2⟩
  | swap x y l =>
    intro r
    cases r with
    | cons h r => cases r with
      | cons h2 r => exact ⟨_, .swap _ _ _, .cons h2 (.cons h r)⟩
  | trans p q ih1 ih2 =>
    intro r
    obtain ⟨es, p1, r1⟩ := ih2 r
    obtain ⟨fs, p2, r2⟩ := ih1 r1
    exact ⟨fs, p2.trans p1, r2⟩
theorem perm_map {enc : α → β} {es : List β} {l : List α} (h : es.Perm (l.map enc)) : ∃ m : List α, m.Perm l ∧ es = m.map enc := by
  have : ∀ {es ds : List β}, es.Perm ds → ∀ l : List α, ds = l.map enc → ∃ m : List α, m.Perm l ∧ es = m.map enc := by
    intro es ds h
    induction h with
    | nil => intro l e; exact ⟨l, .refl _, e⟩
    | cons x p ih =>
      intro l e
      cases l with
      | nil => cases e
      | cons a l =>
        simp only [List.map_cons, List.cons.injEq] at e
        obtain ⟨m, p2, e2⟩ := ih l e.2
        exact ⟨a :: m, p2.cons a, by rw [List.map_cons, ← e.1, e2]⟩
    | swap x y l' =>
      intro l e
      match l, e with
      | a :: b :: l, e =>
        simp only [List.map_cons, List.cons.injEq] at e
        exact ⟨b :: a :: l, .swap _ _ _, by rw [List.map_cons, List.map_cons, ← e.1, ← e.2.1, ← e.2.2]⟩
    | trans p q ih1 ih2 =>
      intro l e
      obtain ⟨m, p1, e1⟩ := ih2 l e
      obtain ⟨m', p2, e2⟩ := ih1 m e1
      exact ⟨m', p2.trans p1, e2⟩
  exact this h l rfl
/-! a loop whose walk's head changes nothing, with its state -/
theorem loop_at {l : List α} {Y : α → V → Hp → Prop} {g : TG} {tu : TS} {D : Ends} (hw : GvI S0 wi σ H fun J H1 => WkL S J l Y H1) (j : S.J H) (Pv : Nat → L2.St → Hp → Prop) (h0 : ∀ H1, Same H H1 → Pv 0 σ H1)
    (turn : ∀ (i : Nat) z x σ' H', l[i]? = some z → S.T H H' → (∃ H0, Pv i σ' H0 ∧ Same H0 H') → Y z x H' → ∃ σ2, (∀ Q : L2.St → Hp → Prop, Q σ2 H' → g x σ' H' Q) ∧ ∀ D' : Ends, D'.rt = D.rt → (∀ σ'' H2, S.T H' H2 → Pv (i + 1) σ'' H2 → D'.nx σ'' H2) → (D'.bk = D.nx) → tu D' σ2 H')
    (done : ∀ σ' H', S.T H H' → Pv l.length σ' H' → D.nx σ' H') : tFor wi g tu D σ H := by
  refine hw H S0.r _ fun J H2 a2 w => ?_
  have a2' : S.T H H2 := .of_same j (S0.same a2)
  refine ⟨fun i m σ' H' => m = l.length - i ∧ i ≤ l.length ∧ Pv i σ' H' ∧ S.T H2 H', ⟨l.length, rfl, Nat.zero_le _, h0 H2 (S0.same a2), a2'.fin⟩, ?_⟩
  rintro i m σ' H3 ⟨rfl, hi, hp, a3⟩
  by_cases hlt : i < l.length
  · refine .inr ⟨w.go i H3 hlt a3, fun σ'' H' => Pv (i + 1) σ'' H' ∧ S.T H2 H', fun σ'' H' p => ⟨l.length - (i + 1), by omega, rfl, hlt, p⟩, fun x H4 yy => ?_⟩
    obtain ⟨a4, s4, z, hz, hy⟩ := w.yld i x H3 H4 hlt a3 yy
    obtain ⟨σ2, h1, h2⟩ := turn i z x σ' H4 hz (a2'.trans (a3.trans a4)) ⟨H3, hp, s4⟩ hy
    exact h1 _ (h2 _ rfl (fun σ'' H5 a5 p => ⟨p, (a3.trans a4).trans a5⟩) rfl)
  · have e : i = l.length := by omega
    subst e
    exact .inl ⟨w.stop H3 a3, done σ' H3 (a2'.trans a3) hp⟩
theorem gi_rngA {n : Nat} (j : S.J H) (h : GvA S0 tr σ H [.val (.int (n : Int))]) (hn : n ≤ 100000) : GvI S0 (iRng1 tr) σ H fun J H1 => WkL S J (List.range n) (fun z x _ => x = .int (z : Int)) H1 := fun H1 a R k => by
  refine h H1 a _ fun vs H2 a2 hvs => ?_
  obtain ⟨rfl⟩ : vs = [.int (n : Int)] := by
    cases hvs with
    | cons h t => cases t; rw [show _ = V.int n from h]
  refine ⟨n, rfl, by omega, by omega, k _ H2 a2 ?_⟩
  rw [Int.toNat_natCast]
  refine ⟨fun i H' hi a3 => by show i < n; simpa using hi, fun H' a3 => by show n ≤ _; simp, fun i x H' H'' hi a3 y => ?_⟩
  obtain ⟨rfl, rfl⟩ := y
  exact ⟨a3.fin, Same.refl _, i, by rw [List.length_range] at hi; rw [List.getElem?_range hi], by rw [Int.zero_add]⟩
theorem gi_tupA {enc : α → PyData} {l : List α} {dd : PyData} (h : Gv S0 tl σ H (.dat dd)) (w : Row dd (l.map enc) := by exact .inl rfl) : GvI S0 (iTup K tl) σ H fun J H1 => WkL S J l (YD enc) H1 := fun H1 a R k => by
  refine h H1 a _ fun v H2 a2 hv => ?_
  obtain ⟨t, xs, rfl, ht, hr, _⟩ := Rep.row (K := K) w hv
  refine ⟨t, rfl, ⟨xs, ht⟩, k _ H2 a2 ?_⟩
  have hl : xs.length = l.length := by rw [hr.length, List.length_map]
  refine ⟨fun i H' hi a3 => ?_, fun H' a3 => ⟨xs, sqt_to ht a3.tups, by omega⟩, fun i x H' H'' hi a3 y => ?_⟩
  · have hx : i < xs.length := by omega
    exact ⟨xs, xs[i], sqt_to ht a3.tups, List.getElem?_eq_getElem hx⟩
  · obtain ⟨rfl, y⟩ := y
    have hx := y xs (sqt_to ht a3.tups)
    refine ⟨a3.fin, Same.refl _, l[i], List.getElem?_eq_getElem hi, ?_⟩
    exact (hr.mono a3.tups).get hx (by rw [List.getElem?_map, List.getElem?_eq_getElem hi]; rfl)
theorem gi_listA {a : Addr} {xs : List V} {l : List α} {Y : α → V → Hp → Prop} (h : Gv S0 tl σ H (.val (.ref a))) (h0 : H a = some (.lst xs)) (hl : xs.length = l.length) (ha : ∀ H1, Same H H1 → ∀ H2, S.T H1 H2 → H2 a = some (.lst xs)) (hY : ∀ (i : Nat) x z H1, Same H H1 → ∀ H2, S.T H1 H2 → xs[i]? = some x → l[i]? = some z → Y z x H2) :
    GvI S0 (iList K tl) σ H fun J H1 => WkL S J l Y H1 := fun H1 b R k => by
  refine h H1 b _ fun v H2 b2 hv => ?_
  cases hv
  have b3 := S0.same (b.trans b2)
  refine ⟨a, rfl, ⟨xs, SqL.of (b3 _ _ h0)⟩, k _ H2 b2 ?_⟩
  refine ⟨fun i H' hi a3 => ?_, fun H' a3 => ⟨xs, SqL.of (ha H2 b3 H' a3), by omega⟩, fun i x H' H'' hi a3 y => ?_⟩
  · have hx : i < xs.length := by omega
    exact ⟨xs, xs[i], SqL.of (ha H2 b3 H' a3), List.getElem?_eq_getElem hx⟩
  · obtain ⟨rfl, y⟩ := y
    have hx := y xs (SqL.of (ha H2 b3 H'' a3))
    exact ⟨a3.fin, Same.refl _, l[i], List.getElem?_eq_getElem hi, hY i x _ H2 b3 _ a3 hx (List.getElem?_eq_getElem hi)⟩
/-! arguments that R tells -/
def Ga (S : Sys) (ta : TA) (σ : L2.St) (H : Hp) (R : List V → Hp → Prop) : Prop := ∀ H1, S.T H H1 → ∀ Q : List V → Hp → Prop, (∀ vs H2, S.T H1 H2 → R vs H2 → Q vs H2) → ta σ H1 Q
theorem ga_e2 {R1 : V → Hp → Prop} {R2 : V → V → Hp → Prop} (h1 : Ge S ta σ H R1) (h2 : ∀ v H1, S.T H H1 → R1 v H1 → Ge S tb σ H1 (R2 v)) : Ga S (tCons ta (tCons tb tNil)) σ H fun vs H' => ∃ v w, vs = [v, w] ∧ R2 v w H' := fun H1 a Q k =>
  h1 H1 a _ fun v H2 a2 r => h2 v H2 (a.trans a2) r H2 a2.fin _ fun w H3 a3 r3 => k _ H3 (a2.trans a3) ⟨v, w, rfl, r3⟩
theorem gx_par {i j : Nat} {R : V → V → Hp → Prop} (h : Ga S tr σ H fun vs H' => ∃ v w, vs = [v, w] ∧ R v w H') : Gx S (tPar i j tr) σ H fun σ' H' => ∃ v w, σ' = (σ.set i (some v)).set j (some w) ∧ R v w H' := fun H1 a D k =>
  h H1 a _ fun vs H2 a2 ⟨v, w, e, r⟩ => ⟨v, w, e, k _ H2 a2 ⟨v, w, rfl, r⟩⟩
theorem GvL.ge (h : GvL S te σ H os) : Ge S te σ H fun v H' => ∃ p xs, v = .ref p ∧ H p = none ∧ S.T H H' ∧ H' p = some (.lst xs) ∧ IsL H' xs os := fun H1 a Q k =>
  h H1 a Q fun p xs H2 hp a2 he hx => k _ H2 a2 ⟨p, xs, rfl, a.free hp, a.trans a2, he, hx⟩
theorem ga_L1 (h : GvL S te σ H os) : Ga S (tCons te tNil) σ H fun vs H' => ∃ p xs, vs = [.ref p] ∧ H p = none ∧ H' p = some (.lst xs) ∧ IsL H' xs os := fun H1 a Q k =>
  h H1 a _ fun p xs H2 hp a2 he hx => k _ H2 a2 ⟨p, xs, rfl, a.free hp, he, hx⟩
theorem ga_e1 {R : V → Hp → Prop} (h : Ge S te σ H R) : Ga S (tCons te tNil) σ H fun vs H' => ∃ v, vs = [v] ∧ R v H' := fun H1 a Q k =>
  h H1 a _ fun v H2 a2 r => k _ H2 a2 ⟨v, rfl, r⟩
end
end Ed

set_option maxHeartbeats 1000000
/-! EdD3: what the law computes of kinds and ids. -/
namespace Ed
open PySem PySem.Spec PyProof.Rows L2
section
variable {P : Program} {w : World} {K : PySem.W.Frag} {mg : Str → Option Value} {base : Heap}
abbrev sp_law_v_put : Sp := SpP (ι := List Int × List Int × List Int) (fun i => [.dat (tupI i.1), .dat (tupI i.2.1), .dat (tupI i.2.2)]) (fun i => i.1.length ≤ 12 ∧ (∀ s ∈ i.1, 2 ≤ s) ∧ i.2.1.length = i.1.length ∧ i.2.2.length = i.1.length) (fun i => .dat (tupI (put i.1 i.2.1 i.2.2)))
abbrev sp_law_v_from_to : Sp := SpP (ι := List Int × List Int × List Int) (fun i => [.dat (tupI i.1), .dat (tupI i.2.1), .dat (tupI i.2.2)]) (fun i => i.1.length ≤ 12 ∧ (∀ s ∈ i.1, 2 ≤ s) ∧ i.2.1.length = i.1.length ∧ i.2.2.length = i.1.length) (fun i => .dat (tupI (stp i.1 i.2.1 i.2.2)))
abbrev sp_law_v_state : Sp := sp_state_of
abbrev sp_law_v_amounts : Sp := sp_amounts_of
abbrev sp_law_v_moved : Sp := sp_amounts_behind
abbrev sp_law_v_steps : Sp := sp_steps_between
abbrev sp_law_v_record_at : Sp := sp_record_at
def barI (l : List (Option Int)) : List Nat := (List.range l.length).filter fun k => decide (l.getD k (some 0) = none)
abbrev sp_law_v_barred_at : Sp := SpP (ι := List Kd × List (List Int)) (fun i => [.dat (fieldsD i.1), .dat (amD i.2)]) (fun i => OkF i.1 ∧ OkA i.1 i.2) (fun i => .dat (natD (barI (recAt i.1 i.2))))
def both (a b : List Nat) : List Nat := srt idD (a.filter (fun c => decide (c ∉ b)) ++ b)
abbrev sp_law_v_both : Sp := SpP (ι := List Nat × List Nat) (fun i => [.dat (idsD i.1), .dat (idsD i.2)]) (fun i => Lot i.1 ∧ Lot i.2) (fun i => .dat (idsD (both i.1 i.2)))
theorem rng_ok {n j z : Nat} (h : (List.range n)[j]? = some z) : z < n := List.mem_range.mp (List.mem_of_getElem? h)
theorem yi0 {z : Nat} {x : V} {H : Hp} (h : YI 0 z x H) : x = .int (z : Int) := by
  have : x = .int (0 + (z : Int)) := h
  rw [this, Int.zero_add]

theorem sc_law_v_put : FnScope ["_law_sizes", "_law_one_here", "_law_two", "_law_k"] ["_law_sizes", "_law_one_here", "_law_two"] (defScope s_law_v_put) := ⟨rfl, rfl, rfl, by decide +kernel, rfl, by decide +kernel, by decide +kernel⟩
theorem ok_law_v_put (T : Tx mg) (F : DfD K mg "_law_v_put" s_law_v_put)  : Gd P w K mg base "_law_v_put" 1 sp_law_v_put := gd_pure (N := ["_law_sizes", "_law_one_here", "_law_two", "_law_k"]) F sc_law_v_put (fun _ _ _ _ _ _ us hl => match us, hl with | [_, _, _], _ => rfl) (fun _ => rfl) fun f cdv A outer s H H0 E vs i hr hv hp => by
  obtain ⟨v0, v1, v2, rfl, h0, h1, h2⟩ := isL3 hv
  refine ⟨_, (pss_one (ps_ret (pe_ct call_tuple_of T.tuple boot_tuple (pa_cons (pe_lc (own := [("_law_k", 3)]) (g := (gName 3)) (tt := tYes) (te := (tOp _ (tCB _ (tCons (tOp _ (tOp (rIxT K) (tVar 1) (tVar 3)) (tOp (rIxT K) (tVar 2) (tVar 3))) tNil)) (tOp (rIxT K) (tVar 0) (tVar 3)))) rfl sc_law_v_put.nd (pi_range1 (by rfl) T.range (pa_cons (pe_cb call_len_seq T.len boot_len (pa_cons (pv 0) pa_nil)) pa_nil)) (blkOk_by (N := ["_law_sizes", "_law_one_here", "_law_two", "_law_k"]) (sc := defScope s_law_v_put) (by decide +kernel)) (fun _ _ _ _ _ => (pgn 3 sc_law_v_put.nd)) (fun _ _ _ _ _ => pts_nil) (fun _ _ _ _ _ => (pe_op op_modN (pe_ct call_int1 T.int boot_int (pa_cons (pe_op op_add (pe_ix ix_tup (pv 1) (pv 3) (fun _ _ => rfl)) (pe_ix ix_tup (pv 2) (pv 3) (fun _ _ => rfl))) pa_nil)) (pe_ix ix_tup (pv 0) (pv 3) (fun _ _ => rfl))))) pa_nil)))), ?_⟩
  obtain ⟨sl, s2, l1, l2⟩ := hp
  refine gr_ret ((gv_tupE (l := List.range i.1.length) (f := fun k => .int ((i.2.1.getD k 0 + i.2.2.getD k 0).fmod (i.1.getD k 2))) (gl_lc1y (gi_rng1 (n := i.1.length) (ga_one ((gv_lenT (ds := i.1.map .int) (gv_var rfl h0)).int_cast (by rw [List.length_map]))) (by omega)) (by rw [List.length_range]; omega) (fun _ => rfl) fun j z x H1 hz a hy => ?_)).cast ?_)
  · have hz' := rng_ok hz
    have hx := yi0 hy
    subst hx
    refine Gv.int_dat (gv_op (gv_int1 (gv_op (Gv.int_val (gv_ixT (i := z) (ds := i.2.1.map .int) (gv_var rfl (h1.to a)) (gv_val rfl) rfl (map_getD (by omega) 0))) (Gv.int_val (gv_ixT (i := z) (ds := i.2.2.map .int) (gv_var rfl (h2.to a)) (gv_val rfl) rfl (map_getD (by omega) 0))) rg_I0)) (Gv.int_val (gv_ixT (i := z) (ds := i.1.map .int) (gv_var rfl (h0.to a)) (gv_val rfl) rfl (map_getD (by omega) 2))) (rg_I ?_))
    have := s2 _ (getD_mem hz' 2)
    exact fun e => by rw [e] at this; exact absurd this (by decide)
  · rw [tupI, put, zip_range3 (n := i.1.length) (by omega) (by omega) rfl 0 0 2, List.map_map]
    rfl

theorem sc_law_v_from_to : FnScope ["_law_sizes", "_law_one_here", "_law_two", "_law_k"] ["_law_sizes", "_law_one_here", "_law_two"] (defScope s_law_v_from_to) := ⟨rfl, rfl, rfl, by decide +kernel, rfl, by decide +kernel, by decide +kernel⟩
theorem ok_law_v_from_to (T : Tx mg) (F : DfD K mg "_law_v_from_to" s_law_v_from_to)  : Gd P w K mg base "_law_v_from_to" 1 sp_law_v_from_to := gd_pure (N := ["_law_sizes", "_law_one_here", "_law_two", "_law_k"]) F sc_law_v_from_to (fun _ _ _ _ _ _ us hl => match us, hl with | [_, _, _], _ => rfl) (fun _ => rfl) fun f cdv A outer s H H0 E vs i hr hv hp => by
  obtain ⟨v0, v1, v2, rfl, h0, h1, h2⟩ := isL3 hv
  refine ⟨_, (pss_one (ps_ret (pe_ct call_tuple_of T.tuple boot_tuple (pa_cons (pe_lc (own := [("_law_k", 3)]) (g := (gName 3)) (tt := tYes) (te := (tOp _ (tCB _ (tCons (tOp _ (tOp (rIxT K) (tVar 2) (tVar 3)) (tOp (rIxT K) (tVar 1) (tVar 3))) tNil)) (tOp (rIxT K) (tVar 0) (tVar 3)))) rfl sc_law_v_from_to.nd (pi_range1 (by rfl) T.range (pa_cons (pe_cb call_len_seq T.len boot_len (pa_cons (pv 0) pa_nil)) pa_nil)) (blkOk_by (N := ["_law_sizes", "_law_one_here", "_law_two", "_law_k"]) (sc := defScope s_law_v_from_to) (by decide +kernel)) (fun _ _ _ _ _ => (pgn 3 sc_law_v_from_to.nd)) (fun _ _ _ _ _ => pts_nil) (fun _ _ _ _ _ => (pe_op op_modN (pe_ct call_int1 T.int boot_int (pa_cons (pe_op op_sub (pe_ix ix_tup (pv 2) (pv 3) (fun _ _ => rfl)) (pe_ix ix_tup (pv 1) (pv 3) (fun _ _ => rfl))) pa_nil)) (pe_ix ix_tup (pv 0) (pv 3) (fun _ _ => rfl))))) pa_nil)))), ?_⟩
  obtain ⟨sl, s2, l1, l2⟩ := hp
  refine gr_ret ((gv_tupE (l := List.range i.1.length) (f := fun k => .int ((i.2.2.getD k 0 - i.2.1.getD k 0).fmod (i.1.getD k 2))) (gl_lc1y (gi_rng1 (n := i.1.length) (ga_one ((gv_lenT (ds := i.1.map .int) (gv_var rfl h0)).int_cast (by rw [List.length_map]))) (by omega)) (by rw [List.length_range]; omega) (fun _ => rfl) fun j z x H1 hz a hy => ?_)).cast ?_)
  · have hz' := rng_ok hz
    have hx := yi0 hy
    subst hx
    refine Gv.int_dat (gv_op (gv_int1 (gv_op (Gv.int_val (gv_ixT (i := z) (ds := i.2.2.map .int) (gv_var rfl (h2.to a)) (gv_val rfl) rfl (map_getD (by omega) 0))) (Gv.int_val (gv_ixT (i := z) (ds := i.2.1.map .int) (gv_var rfl (h1.to a)) (gv_val rfl) rfl (map_getD (by omega) 0))) rg_I0)) (Gv.int_val (gv_ixT (i := z) (ds := i.1.map .int) (gv_var rfl (h0.to a)) (gv_val rfl) rfl (map_getD (by omega) 2))) (rg_I ?_))
    have := s2 _ (getD_mem hz' 2)
    exact fun e => by rw [e] at this; exact absurd this (by decide)
  · rw [tupI, stp, zip_range3 (n := i.1.length) (by omega) (by omega) rfl 0 0 2, List.map_map]
    rfl

theorem sc_law_v_state : FnScope ["_law_kind", "_law_here"] ["_law_kind", "_law_here"] (defScope s_law_v_state) := ⟨rfl, rfl, rfl, by decide +kernel, rfl, by decide +kernel, by decide +kernel⟩
theorem ok_law_v_state (T : Tx mg) (F : DfD K mg "_law_v_state" s_law_v_state)  : Gd P w K mg base "_law_v_state" 1 sp_law_v_state := gd_pure (N := ["_law_kind", "_law_here"]) F sc_law_v_state (fun _ _ _ _ _ _ us hl => match us, hl with | [_, _], _ => rfl) (fun _ => rfl) fun f cdv A outer s H H0 E vs i hr hv hp => by
  obtain ⟨v0, v1, rfl, h0, h1⟩ := isL2 hv
  refine ⟨_, (pss_one (ps_ret (pe_ifExp (pt_cmpR (op_inTD (hu65 hr)) (pv 1) (pe_ix ix_tup (pv 0) pe_int (fun _ _ => rfl)) (by rfl)) (pe_idx (hu65 hr) (pe_ix ix_tup (pv 0) pe_int (fun _ _ => rfl)) (pa_cons (pv 1) pa_nil)) pe_non))), ?_⟩
  have w : Row (.list (i.1.2.map tupI)) (i.1.2.map tupI) := row_list
  have g : Gv S0 (tOp (rIxT K) (tVar 0) (tC (.int 1))) (L2.start ["_law_kind", "_law_here"] [v0, v1]) H (.dat (.list (i.1.2.map tupI))) := gv_ixT (i := 1) (gv_var rfl h0) gv_int rfl rfl
  have hc : decide (i.2 ∈ i.1.2) = true ↔ ∃ a ∈ i.1.2, tupI a = tupI i.2 := by
    rw [decide_eq_true_iff]
    exact ⟨fun h => ⟨_, h, rfl⟩, fun ⟨a, ha, e⟩ => tupI_inj e ▸ ha⟩
  refine gr_ret (gv_if (b := decide (i.2 ∈ i.1.2)) (gt_test (gv_op (gv_var rfl h1) g (rg_inTD (neg := false) (fun _ _ => pl_tupI) pl_tupI hc w))) (fun e => ?_) fun e => ?_)
  · have e' := of_decide_eq_true e
    have hk : kst i.1 i.2 = some ((@List.idxOf _ instBEqOfDecidableEq i.2 i.1.2 : Nat) : Int) := if_pos e'
    rw [hk]
    exact Gv.int_dat (gv_idxT (a := i.2) g (gv_var rfl h1) (fun _ _ => pl_tupI) pl_tupI (fun b _ => tupI_eq) e' rfl)
  · have e' := of_decide_eq_false e
    have hk : kst i.1 i.2 = none := if_neg e'
    rw [hk]
    exact Gv.non_dat gv_cv

theorem sc_law_v_amounts : FnScope ["_law_sorts", "_law_line", "_law_k"] ["_law_sorts", "_law_line"] (defScope s_law_v_amounts) := ⟨rfl, rfl, rfl, by decide +kernel, rfl, by decide +kernel, by decide +kernel⟩
theorem ok_law_v_amounts (T : Tx mg) (F : DfD K mg "_law_v_amounts" s_law_v_amounts)  : Gd P w K mg base "_law_v_amounts" 1 sp_law_v_amounts := gd_pure (N := ["_law_sorts", "_law_line", "_law_k"]) F sc_law_v_amounts (fun _ _ _ _ _ _ us hl => match us, hl with | [_, _], _ => rfl) (fun _ => rfl) fun f cdv A outer s H H0 E vs i hr hv hp => by
  obtain ⟨v0, v1, rfl, h0, h1⟩ := isL2 hv
  refine ⟨_, (pss_one (ps_ret (pe_ct call_tuple_of T.tuple boot_tuple (pa_cons (pe_lc (own := [("_law_k", 2)]) (g := (gName 2)) (tt := tYes) (te := (tOp (rIxT K) (tOp (rIxT K) (tOp (rIxT K) (tVar 0) (tVar 2)) (tC _)) (tOp (rIxT K) (tVar 1) (tVar 2)))) rfl sc_law_v_amounts.nd (pi_range1 (by rfl) T.range (pa_cons (pe_cb call_len_seq T.len boot_len (pa_cons (pv 0) pa_nil)) pa_nil)) (blkOk_by (N := ["_law_sorts", "_law_line", "_law_k"]) (sc := defScope s_law_v_amounts) (by decide +kernel)) (fun _ _ _ _ _ => (pgn 2 sc_law_v_amounts.nd)) (fun _ _ _ _ _ => pts_nil) (fun _ _ _ _ _ => (pe_ix ix_tup (pe_ix ix_tup (pe_ix ix_tup (pv 0) (pv 2) (fun _ _ => rfl)) pe_int (fun _ _ => rfl)) (pe_ix ix_tup (pv 1) (pv 2) (fun _ _ => rfl)) (fun _ _ => rfl)))) pa_nil)))), ?_⟩
  have ll := hp.2.1
  have l6 := hp.1.l6
  refine gr_ret ((gv_tupE (l := List.range i.1.length) (f := fun k => tupI ((i.1.getD k ([], [])).2.getD (i.2.getD k 0).toNat [])) (gl_lc1y (gi_rng1 (n := i.1.length) (ga_one ((gv_lenT (ds := i.1.map kindD) (gv_var rfl h0)).int_cast (by rw [List.length_map]))) (by omega)) (by rw [List.length_range]; omega) (fun _ => rfl) fun j z x H1 hz a hy => ?_)).cast ?_)
  · have hz' := rng_ok hz
    have hx := yi0 hy
    subst hx
    have ok := hp.2.2 _ (zip_mem (k := z) (a := i.1) (b := i.2) hz' (by omega) ([], []) 0)
    dsimp only at ok
    exact gv_ixT (i := (i.2.getD z 0).toNat) (ds := (i.1.getD z ([], [])).2.map tupI) (gv_ixT (i := 1) (gv_ixT (i := z) (ds := i.1.map kindD) (gv_var rfl (h0.to a)) (gv_val rfl) rfl (map_getD hz' ([], []))) gv_int rfl rfl) (Gv.int_val (gv_ixT (i := z) (ds := i.2.map .int) (gv_var rfl (h1.to a)) (gv_val rfl) rfl (map_getD (by omega) 0))) (by omega) (map_getD (by omega) []) row_list
  · rw [amD, amOf, zip_range2 (n := i.1.length) rfl (by omega) ([], []) 0, List.map_map]
    rfl

theorem sc_law_v_steps : FnScope ["_law_sorts", "_law_one_here", "_law_two", "_law_k"] ["_law_sorts", "_law_one_here", "_law_two"] (defScope s_law_v_steps) := ⟨rfl, rfl, rfl, by decide +kernel, rfl, by decide +kernel, by decide +kernel⟩
theorem ok_law_v_steps (T : Tx mg) (F : DfD K mg "_law_v_steps" s_law_v_steps) (G_law_v_from_to : Gd P w K mg base "_law_v_from_to" 1 sp_law_v_from_to) : Gd P w K mg base "_law_v_steps" 2 sp_law_v_steps := gd_pure (N := ["_law_sorts", "_law_one_here", "_law_two", "_law_k"]) F sc_law_v_steps (fun _ _ _ _ _ _ us hl => match us, hl with | [_, _, _], _ => rfl) (fun _ => rfl) fun f cdv A outer s H H0 E vs i hr hv hp => by
  obtain ⟨v0, v1, v2, rfl, h0, h1, h2⟩ := isL3 hv
  refine ⟨_, (pss_one (ps_ret (pe_ct call_tuple_of T.tuple boot_tuple (pa_cons (pe_lc (own := [("_law_k", 3)]) (g := (gName 3)) (tt := tYes) (te := (tCall _ [] E0 (tCons (tOp (rIxT K) (tOp (rIxT K) (tVar 0) (tVar 3)) (tC _)) (tCons (tOp (rIxT K) (tVar 1) (tVar 3)) (tCons (tOp (rIxT K) (tVar 2) (tVar 3)) tNil))))) rfl sc_law_v_steps.nd (pi_range1 (by rfl) T.range (pa_cons (pe_cb call_len_seq T.len boot_len (pa_cons (pv 0) pa_nil)) pa_nil)) (blkOk_by (N := ["_law_sorts", "_law_one_here", "_law_two", "_law_k"]) (sc := defScope s_law_v_steps) (by decide +kernel)) (fun _ _ _ _ _ => (pgn 3 sc_law_v_steps.nd)) (fun _ _ _ _ _ => pts_nil) (fun _ _ _ _ _ => (pe_gd G_law_v_from_to hr (pa_cons (pe_ix ix_tup (pe_ix ix_tup (pv 0) (pv 3) (fun _ _ => rfl)) pe_int (fun _ _ => rfl)) (pa_cons (pe_ix ix_tup (pv 1) (pv 3) (fun _ _ => rfl)) (pa_cons (pe_ix ix_tup (pv 2) (pv 3) (fun _ _ => rfl)) pa_nil)))))) pa_nil)))), ?_⟩
  have l1 := hp.2.1.1
  have l2 := hp.2.2.1
  have l6 := hp.1.l6
  refine gr_ret ((gv_tupE (l := List.range i.1.length) (f := fun k => tupI (stp (i.1.getD k ([], [])).1 (i.2.1.getD k []) (i.2.2.getD k []))) (gl_lc1y (gi_rng1 (n := i.1.length) (ga_one ((gv_lenT (ds := i.1.map kindD) (gv_var rfl h0)).int_cast (by rw [List.length_map]))) (by omega)) (by rw [List.length_range]; omega) (fun _ => rfl) fun j z x H1 hz a hy => ?_)).cast ?_)
  · have hz' := rng_ok hz
    have hx := yi0 hy
    subst hx
    have ok1 := hp.2.1.2 _ (zip_mem (k := z) (a := i.1) (b := i.2.1) hz' (by omega) ([], []) [])
    have ok2 := hp.2.2.2 _ (zip_mem (k := z) (a := i.1) (b := i.2.2) hz' (by omega) ([], []) [])
    have okk := hp.1.k _ (getD_mem hz' ([], []))
    exact gv_call (ι := List Int × List Int × List Int) ((i.1.getD z ([], [])).1, i.2.1.getD z [], i.2.2.getD z []) (ga_three (gv_ixT (i := 0) (gv_ixT (i := z) (ds := i.1.map kindD) (gv_var rfl (h0.to a)) (gv_val rfl) rfl (map_getD hz' ([], []))) gv_int rfl rfl) (gv_ixT (i := z) (ds := i.2.1.map tupI) (gv_var rfl (h1.to a)) (gv_val rfl) rfl (map_getD (by omega) [])) (gv_ixT (i := z) (ds := i.2.2.map tupI) (gv_var rfl (h2.to a)) (gv_val rfl) rfl (map_getD (by omega) []))) ⟨okk.sl, okk.s2, ok1.1, ok2.1⟩
  · rw [amD, stps, zip_range3 (n := i.1.length) rfl (by omega) (by omega) ([], []) [] [], List.map_map]
    rfl

theorem sc_law_v_moved : FnScope ["_law_sorts", "_law_here", "_law_go", "_law_k"] ["_law_sorts", "_law_here", "_law_go"] (defScope s_law_v_moved) := ⟨rfl, rfl, rfl, by decide +kernel, rfl, by decide +kernel, by decide +kernel⟩
theorem ok_law_v_moved (T : Tx mg) (F : DfD K mg "_law_v_moved" s_law_v_moved) (G_law_v_put : Gd P w K mg base "_law_v_put" 1 sp_law_v_put) : Gd P w K mg base "_law_v_moved" 2 sp_law_v_moved := gd_pure (N := ["_law_sorts", "_law_here", "_law_go", "_law_k"]) F sc_law_v_moved (fun _ _ _ _ _ _ us hl => match us, hl with | [_, _, _], _ => rfl) (fun _ => rfl) fun f cdv A outer s H H0 E vs i hr hv hp => by
  obtain ⟨v0, v1, v2, rfl, h0, h1, h2⟩ := isL3 hv
  refine ⟨_, (pss_one (ps_ret (pe_ct call_tuple_of T.tuple boot_tuple (pa_cons (pe_lc (own := [("_law_k", 3)]) (g := (gName 3)) (tt := tYes) (te := (tCall _ [] E0 (tCons (tOp (rIxT K) (tOp (rIxT K) (tVar 0) (tVar 3)) (tC _)) (tCons (tOp (rIxT K) (tVar 1) (tVar 3)) (tCons (tOp (rIxT K) (tVar 2) (tVar 3)) tNil))))) rfl sc_law_v_moved.nd (pi_range1 (by rfl) T.range (pa_cons (pe_cb call_len_seq T.len boot_len (pa_cons (pv 0) pa_nil)) pa_nil)) (blkOk_by (N := ["_law_sorts", "_law_here", "_law_go", "_law_k"]) (sc := defScope s_law_v_moved) (by decide +kernel)) (fun _ _ _ _ _ => (pgn 3 sc_law_v_moved.nd)) (fun _ _ _ _ _ => pts_nil) (fun _ _ _ _ _ => (pe_gd G_law_v_put hr (pa_cons (pe_ix ix_tup (pe_ix ix_tup (pv 0) (pv 3) (fun _ _ => rfl)) pe_int (fun _ _ => rfl)) (pa_cons (pe_ix ix_tup (pv 1) (pv 3) (fun _ _ => rfl)) (pa_cons (pe_ix ix_tup (pv 2) (pv 3) (fun _ _ => rfl)) pa_nil)))))) pa_nil)))), ?_⟩
  have l1 := hp.2.1.1
  have l2 := hp.2.2.1
  have l6 := hp.1.l6
  refine gr_ret ((gv_tupE (l := List.range i.1.length) (f := fun k => tupI (put (i.1.getD k ([], [])).1 (i.2.1.getD k []) (i.2.2.getD k []))) (gl_lc1y (gi_rng1 (n := i.1.length) (ga_one ((gv_lenT (ds := i.1.map kindD) (gv_var rfl h0)).int_cast (by rw [List.length_map]))) (by omega)) (by rw [List.length_range]; omega) (fun _ => rfl) fun j z x H1 hz a hy => ?_)).cast ?_)
  · have hz' := rng_ok hz
    have hx := yi0 hy
    subst hx
    have ok1 := hp.2.1.2 _ (zip_mem (k := z) (a := i.1) (b := i.2.1) hz' (by omega) ([], []) [])
    have ok2 := hp.2.2.2 _ (zip_mem (k := z) (a := i.1) (b := i.2.2) hz' (by omega) ([], []) [])
    have okk := hp.1.k _ (getD_mem hz' ([], []))
    exact gv_call (ι := List Int × List Int × List Int) ((i.1.getD z ([], [])).1, i.2.1.getD z [], i.2.2.getD z []) (ga_three (gv_ixT (i := 0) (gv_ixT (i := z) (ds := i.1.map kindD) (gv_var rfl (h0.to a)) (gv_val rfl) rfl (map_getD hz' ([], []))) gv_int rfl rfl) (gv_ixT (i := z) (ds := i.2.1.map tupI) (gv_var rfl (h1.to a)) (gv_val rfl) rfl (map_getD (by omega) [])) (gv_ixT (i := z) (ds := i.2.2.map tupI) (gv_var rfl (h2.to a)) (gv_val rfl) rfl (map_getD (by omega) []))) ⟨okk.sl, okk.s2, ok1.1, ok2.1⟩
  · rw [amD, puts, zip_range3 (n := i.1.length) rfl (by omega) (by omega) ([], []) [] [], List.map_map]
    rfl

theorem sc_law_v_record_at : FnScope ["_law_sorts", "_law_here", "_law_k"] ["_law_sorts", "_law_here"] (defScope s_law_v_record_at) := ⟨rfl, rfl, rfl, by decide +kernel, rfl, by decide +kernel, by decide +kernel⟩
theorem ok_law_v_record_at (T : Tx mg) (F : DfD K mg "_law_v_record_at" s_law_v_record_at) (G_law_v_state : Gd P w K mg base "_law_v_state" 1 sp_law_v_state) : Gd P w K mg base "_law_v_record_at" 2 sp_law_v_record_at := gd_pure (N := ["_law_sorts", "_law_here", "_law_k"]) F sc_law_v_record_at (fun _ _ _ _ _ _ us hl => match us, hl with | [_, _], _ => rfl) (fun _ => rfl) fun f cdv A outer s H H0 E vs i hr hv hp => by
  obtain ⟨v0, v1, rfl, h0, h1⟩ := isL2 hv
  refine ⟨_, (pss_one (ps_ret (pe_ct call_tuple_of T.tuple boot_tuple (pa_cons (pe_lc (own := [("_law_k", 2)]) (g := (gName 2)) (tt := tYes) (te := (tCall _ [] E0 (tCons (tOp (rIxT K) (tVar 0) (tVar 2)) (tCons (tOp (rIxT K) (tVar 1) (tVar 2)) tNil)))) rfl sc_law_v_record_at.nd (pi_range1 (by rfl) T.range (pa_cons (pe_cb call_len_seq T.len boot_len (pa_cons (pv 0) pa_nil)) pa_nil)) (blkOk_by (N := ["_law_sorts", "_law_here", "_law_k"]) (sc := defScope s_law_v_record_at) (by decide +kernel)) (fun _ _ _ _ _ => (pgn 2 sc_law_v_record_at.nd)) (fun _ _ _ _ _ => pts_nil) (fun _ _ _ _ _ => (pe_gd G_law_v_state hr (pa_cons (pe_ix ix_tup (pv 0) (pv 2) (fun _ _ => rfl)) (pa_cons (pe_ix ix_tup (pv 1) (pv 2) (fun _ _ => rfl)) pa_nil))))) pa_nil)))), ?_⟩
  have ll := hp.2.1
  have l6 := hp.1.l6
  refine gr_ret ((gv_tupE (l := List.range i.1.length) (f := fun k => oD (kst (i.1.getD k ([], [])) (i.2.getD k []))) (gl_lc1y (gi_rng1 (n := i.1.length) (ga_one ((gv_lenT (ds := i.1.map kindD) (gv_var rfl h0)).int_cast (by rw [List.length_map]))) (by omega)) (by rw [List.length_range]; omega) (fun _ => rfl) fun j z x H1 hz a hy => ?_)).cast ?_)
  · have hz' := rng_ok hz
    have hx := yi0 hy
    subst hx
    exact gv_call (ι := Kd × List Int) (i.1.getD z ([], []), i.2.getD z []) (ga_two (gv_ixT (i := z) (ds := i.1.map kindD) (gv_var rfl (h0.to a)) (gv_val rfl) rfl (map_getD hz' ([], []))) (gv_ixT (i := z) (ds := i.2.map tupI) (gv_var rfl (h1.to a)) (gv_val rfl) rfl (map_getD (by omega) []))) (hp.1.k _ (getD_mem hz' ([], [])))
  · rw [recD, recAt, zip_range2 (n := i.1.length) rfl (by omega) ([], []) [], List.map_map]
    rfl

theorem sc_law_v_barred_at : FnScope ["_law_sorts", "_law_here", "_law_line", "_law_k"] ["_law_sorts", "_law_here"] (defScope s_law_v_barred_at) := ⟨rfl, rfl, rfl, by decide +kernel, rfl, by decide +kernel, by decide +kernel⟩
theorem ok_law_v_barred_at (T : Tx mg) (F : DfD K mg "_law_v_barred_at" s_law_v_barred_at) (G_law_v_record_at : Gd P w K mg base "_law_v_record_at" 2 sp_law_v_record_at) : Gd P w K mg base "_law_v_barred_at" 3 sp_law_v_barred_at := gd_pure (N := ["_law_sorts", "_law_here", "_law_line", "_law_k"]) F sc_law_v_barred_at (fun _ _ _ _ _ _ us hl => match us, hl with | [_, _], _ => rfl) (fun _ => rfl) fun f cdv A outer s H H0 E vs i hr hv hp => by
  obtain ⟨v0, v1, rfl, h0, h1⟩ := isL2 hv
  refine ⟨_, (pss_cons (psn 2 sc_law_v_barred_at.nd (pe_gd G_law_v_record_at hr (pa_cons (pv 0) (pa_cons (pv 1) pa_nil))))
    (pss_one (ps_ret (pe_ct call_tuple_of T.tuple boot_tuple (pa_cons (pe_lc (own := [("_law_k", 3)]) (g := (gName 3)) (tt := (tTest (tOp _ (tOp (rIxT K) (tVar 2) (tVar 3)) (tC _)))) (te := (tVar 3)) rfl sc_law_v_barred_at.nd (pi_range1 (by rfl) T.range (pa_cons (pe_cb call_len_seq T.len boot_len (pa_cons (pv 2) pa_nil)) pa_nil)) (blkOk_by (N := ["_law_sorts", "_law_here", "_law_line", "_law_k"]) (sc := defScope s_law_v_barred_at) (by decide +kernel)) (fun _ _ _ _ _ => (pgn 3 sc_law_v_barred_at.nd)) (fun _ _ _ _ _ => (pts_one (pt_cmpR op_isN (pe_ix ix_tup (pv 2) (pv 3) (fun _ _ => rfl)) pe_non (nomark _)))) (fun _ _ _ _ _ => (pv 3))) pa_nil))))), ?_⟩
  have ll := hp.2.1
  have l6 := hp.1.l6
  have lr : (recAt i.1 i.2).length = i.1.length := by rw [recAt, List.length_map, List.length_zip]; omega
  refine gr_set (gv_call i (ga_two (gv_var rfl h0) (gv_var rfl h1)) hp) fun v H1 a hv1 => ?_
  generalize hr : recAt i.1 i.2 = r at *
  refine gr_ret ((gv_tupleL (ds := ((List.range r.length).filter fun k => decide (r.getD k (some 0) = none)).map fun n : Nat => .int (n : Int)) ((gl_lc1 (l := List.range r.length) (keep := fun k => decide (r.getD k (some 0) = none)) (f := fun n => Ob.dat (.int (n : Int))) (gi_rng1 (n := r.length) (ga_one ((gv_lenT (ds := r.map oD) (gv_var rfl hv1)).int_cast (by rw [List.length_map]))) (by omega)) (by rw [List.length_range]; omega) (fun _ => rfl) fun j z x H2 hz a2 hy => ?_).cast (by rw [List.map_map]; rfl))).cast rfl)
  have hz' := rng_ok hz
  have hx := yi0 hy
  subst hx
  refine ⟨?_, fun _ => Gv.int_dat (gv_val rfl)⟩
  have g := gv_ixT (S := S0) (K := K) (H := H2) (ta := tVar 2) (tb := tVar 3) (σ := [some v0, some v1, some v, some (.int (z : Int))]) (i := z) (ds := r.map oD) (gv_var rfl (hv1.to a2)) (gv_val rfl) rfl (map_getD hz' (some 0))
  cases e : r.getD z (some 0) with
  | none =>
    rw [e] at g
    exact (gt_test (gv_op (Gv.non_val g) gv_cv rg_isN)).cast (by simp)
  | some t =>
    rw [e] at g
    exact (gt_test (gv_op (Gv.int_val g) gv_cv rg_isN)).cast (by simp)

theorem sc_law_v_both : FnScope ["_law_one_here", "_law_two", "_law_thing"] ["_law_one_here", "_law_two"] (defScope s_law_v_both) := ⟨rfl, rfl, rfl, by decide +kernel, rfl, by decide +kernel, by decide +kernel⟩
theorem ok_law_v_both (T : Tx mg) (F : DfD K mg "_law_v_both" s_law_v_both)  : Gd P w K mg base "_law_v_both" 1 sp_law_v_both := gd_pure (N := ["_law_one_here", "_law_two", "_law_thing"]) F sc_law_v_both (fun _ _ _ _ _ _ us hl => match us, hl with | [_, _], _ => rfl) (fun _ => rfl) fun f cdv A outer s H H0 E vs i hr hv hp => by
  obtain ⟨v0, v1, rfl, h0, h1⟩ := isL2 hv
  refine ⟨_, (pss_one (ps_ret (pe_ct call_tuple_of T.tuple boot_tuple (pa_cons (pe_cb (cr_srtL hr idD) T.sorted boot_sorted (pa_cons (pe_op op_cat (pe_lc (own := [("_law_thing", 2)]) (g := (gName 2)) (tt := (tTest (tOp (rInTD K true) (tVar 2) (tVar 1)))) (te := (tVar 2)) rfl sc_law_v_both.nd (pi_tup (pv 0)) (blkOk_by (N := ["_law_one_here", "_law_two", "_law_thing"]) (sc := defScope s_law_v_both) (by decide +kernel)) (fun _ _ _ _ _ => (pgn 2 sc_law_v_both.nd)) (fun _ _ _ _ _ => (pts_one (pt_cmpR (op_ninTD (hu65 hr)) (pv 2) (pv 1) (by rfl)))) (fun _ _ _ _ _ => (pv 2))) (pe_ct call_list_of T.list boot_list (pa_cons (pv 1) pa_nil))) pa_nil)) pa_nil)))), ?_⟩
  have g1 := hp.1.len
  have g2 := hp.2.len
  have lf : (i.1.filter fun c => decide (c ∉ i.2)).length ≤ 1200 := Nat.le_trans (List.length_filter_le _ _) g1
  refine gr_ret (gv_tupleL (gl_sorted (l := i.1.filter (fun c => decide (c ∉ i.2)) ++ i.2) ((gl_cat (gl_lc1 (l := i.1) (keep := fun c => decide (c ∉ i.2)) (f := fun c => Ob.dat (idD c)) (gi_tup (enc := idD) (gv_var rfl h0)) (by omega) (fun _ => rfl) fun j z x H1 hz a hy => ⟨?_, fun _ => gv_vd rfl hy⟩) (gl_listT (ds := i.2.map idD) (gv_var rfl h1)) (by rw [List.length_map, List.length_map, List.length_map]; omega)).cast (by rw [List.map_append, List.map_append, List.map_map, List.map_map]; rfl)) (srt_of (by rw [List.length_append]; omega))))
  have hz' := hp.1.1 z (List.mem_of_getElem? hz)
  refine (gt_test (gv_op (gv_vd rfl hy) (gv_var rfl (h1.to a)) (rg_inTD (l := i.2) (enc := idD) (neg := true) (c := decide (z ∈ i.2)) (fun _ _ => pl_id) pl_id ?_))).cast (by simp)
  rw [decide_eq_true_iff]
  exact ⟨fun h => ⟨_, h, rfl⟩, fun ⟨a, ha, e⟩ => id_inj (hp.2.1 a ha) hz' e ▸ ha⟩

end
end Ed

set_option maxHeartbeats 1000000
/-! EdD4: draws. -/
namespace Ed
open PySem PySem.Spec PyProof.Rows L2
section
variable {P : Program} {w : World} {K : PySem.W.Frag} {mg : Str → Option Value} {base : Heap}
def sp_law_pool (K : PySem.W.Frag) : Sp := fun vs H Q _ => ∃ (a : Addr) (ns : List Int), vs = [.ref a, .int 0] ∧ SqL K H a (ns.map V.int) ∧ ns.length ≤ 63 ∧ ∀ H' p, Same H H' → H p = none → SrcOk p H' → Q (.ref p) H'
def sp_law_take : Sp := fun vs H Q _ => ∃ (src : Addr) (top : Nat), vs = [.ref src, .int top] ∧ SrcOk src H ∧ 1 ≤ top ∧ top ≤ 100000 ∧ ∀ (r : Nat) H', (SS src).T H H' → r < top → Q (.int r) H'
def sp_law_one : Sp := fun vs H Q _ => ∃ (src l : Addr) (xs : List V), vs = [.ref src, .ref l] ∧ SrcOk src H ∧ l ≠ src ∧ H l = some (.lst xs) ∧ 1 ≤ xs.length ∧ xs.length ≤ 100000 ∧ ∀ v H', (SS src).T H H' → v ∈ xs → Q v H'
def sp_law_mixed : Sp := fun vs H Q _ => ∃ (src l : Addr) (xs : List V), vs = [.ref src, .ref l] ∧ SrcOk src H ∧ l ≠ src ∧ H l = some (.lst xs) ∧ xs.length ≤ 100000 ∧ ∀ p ys H', H p = none → (SS src).T H H' → H' p = some (.lst ys) → ys.Perm xs → Q (.ref p) H'
def sp_law_some : Sp := fun vs H Q _ => ∃ (src l : Addr) (xs : List V), vs = [.ref src, .ref l] ∧ SrcOk src H ∧ l ≠ src ∧ H l = some (.lst xs) ∧ xs.length ≤ 100000 ∧ ∀ p ys H', H p = none → (SS src).T H H' → H' p = some (.lst ys) → ys.Sublist xs → Q (.ref p) H'
theorem erase_perm {α : Type} {l : List α} {i : Nat} (h : i < l.length) : (l[i] :: l.eraseIdx i).Perm l := by
  have e : l = l.take i ++ l[i] :: l.drop (i + 1) := by rw [← List.drop_eq_getElem_cons h, List.take_append_drop]
  rw [List.eraseIdx_eq_take_drop_succ]
  exact List.perm_middle.symm.trans (List.Perm.of_eq e.symm)
/-- the next of the second number -/
theorem next_ok {m : Int} (h : 0 ≤ m) : 0 ≤ (m * 39373 + 7).fmod 2147483647 ∧ (m * 39373 + 7).fmod 2147483647 < 2147483647 := ⟨Int.fmod_nonneg_of_pos _ (by decide), Int.fmod_lt_of_pos _ (by decide)⟩
theorem nat_of {r : Int} {n : Nat} (h : 0 ≤ r) (h2 : r < n) : ∃ k : Nat, r = (k : Int) ∧ k < n := ⟨r.toNat, by omega, by omega⟩
theorem src_put {src : Addr} {H : Hp} {b m : Int} {x y : V} (h : H src = some (.lst [x, y])) (j : SrcOk src H) (hb : 0 ≤ b) (hm : 0 ≤ m) (hm2 : m < 2147483647) : (SS src).T H (upd H src (.lst [.int b, .int m])) :=
  ⟨j, ⟨b, m, upd_same, hb, hm, hm2⟩, fun a o n e => by rw [upd_ne fun z => n z]; exact e⟩

theorem sc_law_take : FnScope ["_law_source", "_law_top", "_law_drawn"] ["_law_source", "_law_top"] (defScope s_law_take) := ⟨rfl, rfl, rfl, by decide +kernel, rfl, by decide +kernel, by decide +kernel⟩
theorem ok_law_take (T : Tx mg) (F : DfD K mg "_law_take" s_law_take)  : Gd P w K mg base "_law_take" 1 sp_law_take := gd_of (N := ["_law_source", "_law_top", "_law_drawn"]) F sc_law_take (fun _ _ _ _ _ _ us hl => match us, hl with | [_, _], _ => rfl) (fun vs H Q E h => by
    obtain ⟨src, top, rfl, ⟨b, m, hs, hb, hm, hm2⟩, t1, t2, k⟩ := h
    rfl) fun f cdv A outer s H vs Q E hr hsp => by
  obtain ⟨src, top, rfl, ⟨b, m, hs, hb, hm, hm2⟩, t1, t2, k⟩ := hsp
  refine ⟨_, (pss_cons (ps_if (pt_cmpR op_gt (pe_ix ix_list (pv 0) pe_int (fun _ _ => rfl)) pe_int (nomark _)) (pss_cons (psn 2 sc_law_take.nd (pe_op op_modN (pe_ct call_int1 T.int boot_int (pa_cons (pe_ix ix_list (pv 0) pe_int (fun _ _ => rfl)) pa_nil)) (pv 1)))
    (pss_cons (ps_asg (pe_op op_fdivN (pe_ix ix_list (pv 0) pe_int (fun _ _ => rfl)) (pv 1)) (pg_sub (pv 0) pe_int set_list))
    (pss_one (ps_ret (pv 2))))) pss_nil)
    (pss_cons (ps_asg (pe_op op_modN (pe_ct call_int1 T.int boot_int (pa_cons (pe_op op_add (pe_op op_mul (pe_ix ix_list (pv 0) pe_int (fun _ _ => rfl)) pe_int) pe_int) pa_nil)) pe_int) (pg_sub (pv 0) pe_int set_list))
    (pss_one (ps_ret (pe_op op_modN (pe_ct call_int1 T.int boot_int (pa_cons (pe_op op_fdivN (pe_op op_modN (pe_ct call_int1 T.int boot_int (pa_cons (pe_op op_mul (pe_ix ix_list (pv 0) pe_int (fun _ _ => rfl)) (pe_ix ix_list (pv 0) pe_int (fun _ _ => rfl))) pa_nil)) pe_int) pe_int) pa_nil)) (pv 1)))))), ?_⟩
  have j : SrcOk src H := ⟨b, m, hs, hb, hm, hm2⟩
  have at0 : ∀ H1, S0.T H H1 → H1 src = some (.lst [.int b, .int m]) := fun H1 a => S0.same a _ _ hs
  have g0 : ∀ (σ : L2.St), σ[0]? = some (some (.ref src)) → Gv S0 (tOp (rIxL K) (tVar 0) (tC (.int 0))) σ H (.val (.int b)) := fun σ e => gv_ixQ (i := 0) (gv_val e) gv_int rfl (fun H1 a => SqL.of (at0 H1 a)) rfl rfl
  have g1 : ∀ (σ : L2.St), σ[0]? = some (some (.ref src)) → Gv S0 (tOp (rIxL K) (tVar 0) (tC (.int 1))) σ H (.val (.int m)) := fun σ e => gv_ixQ (i := 1) (gv_val e) gv_int rfl (fun H1 a => SqL.of (at0 H1 a)) rfl rfl
  have tz : (top : Int) ≠ 0 := by omega
  have modOk : ∀ x : Int, ∃ r : Nat, x.fmod (top : Int) = (r : Int) ∧ r < top := fun x => nat_of (Int.fmod_nonneg_of_pos _ (by omega)) (Int.fmod_lt_of_pos _ (by omega))
  refine (gt_test (gv_op (g0 _ rfl) gv_int rg_I0)).fin trivial fun H1 a1 => ?_
  refine ite2 (fun hpos => ?_) fun hneg => ?_
  · obtain ⟨r, er, hr1⟩ := modOk b
    refine ((gv_op (gv_int1 (g0 _ rfl)) (gv_val rfl) (rg_I tz)).mono a1).fin trivial fun v H2 a2 hv => ?_
    have hv : v = .int (b.fmod top) := hv
    subst hv
    have a12 := a1.trans a2
    refine ((gv_op (g0 _ rfl) (gv_val rfl) (rg_I ⟨tz, by omega⟩)).mono a12).fin trivial fun v H3 a3 hv => ?_
    have hv : v = .int (b.fdiv top) := hv
    subst hv
    have a13 := a12.trans a3
    refine ⟨.ref src, rfl, src, _, 0, 0, rfl, rfl, at0 H3 a13, rfl, _, rfl, ?_⟩
    rw [er]
    exact k r _ ((SS.of j (S0.same a13)).trans (src_put (at0 H3 a13) (SS.of j (S0.same a13)).j' (Int.fdiv_nonneg hb (by omega)) hm hm2)) hr1
  · have n := next_ok hm
    refine ((gv_op (gv_int1 (gv_op (gv_op (g1 _ rfl) gv_int (rg_I (.inr (by decide)))) gv_int rg_I0)) gv_int (rg_I (by decide))).mono a1).fin trivial fun v H3 a3 hv => ?_
    have hv : v = .int ((m * 39373 + 7).fmod 2147483647) := hv
    subst hv
    have a13 := a1.trans a3
    refine ⟨.ref src, rfl, src, _, 1, 1, rfl, rfl, at0 H3 a13, rfl, ?_⟩
    generalize hm' : (m * 39373 + 7).fmod 2147483647 = m' at *
    have t4 := (SS.of j (S0.same a13)).trans (src_put (at0 H3 a13) (SS.of j (S0.same a13)).j' hb n.1 n.2)
    generalize hH4 : upd H3 src (.lst ([V.int b, V.int m].set 1 (.int m'))) = H4 at *
    have at4 : H4 src = some (.lst [.int b, .int m']) := by rw [← hH4, upd_same]; rfl
    have t4 : (SS src).T H H4 := by rw [← hH4]; exact t4
    have g2 : Gv S0 (tOp (rIxL K) (tVar 0) (tC (.int 1))) (L2.start ["_law_source", "_law_top", "_law_drawn"] [.ref src, .int top]) H4 (.val (.int m')) := gv_ixQ (i := 1) (gv_val rfl) gv_int rfl (fun H1 a => SqL.of (S0.same a _ _ at4)) rfl rfl
    obtain ⟨r, er, hr1⟩ := modOk (((m' * m').fmod 2147483629).fdiv 32)
    refine (gv_op (gv_int1 (gv_op (gv_op (gv_int1 (gv_op g2 g2 (rg_I (C := CMul) (g := fun i j => .int (i * j)) (.inl ⟨by omega, by omega⟩)))) gv_int (rg_I (C := fun _ j => j ≠ 0) (g := fun i j => .int (i.fmod j)) (by decide))) gv_int (rg_I (C := CDivN) (g := fun i j => .int (i.fdiv j)) ⟨by decide, by decide⟩))) (gv_val (i := 1) (v := .int top) rfl) (rg_I (C := fun _ j => j ≠ 0) (g := fun i j => .int (i.fmod j)) tz)).fin trivial fun v H5 a5 hv => ?_
    have hv : v = .int ((((m' * m').fmod 2147483629).fdiv 32).fmod top) := hv
    subst hv
    rw [er]
    exact k r H5 (t4.trans (SS.of t4.j' (S0.same a5))) hr1

/-- a draw -/
theorem ge_take {S : Sys} {src : Addr} {σ : L2.St} {H : Hp} {tr : TA} {top : Nat} (hS : HasSrc src S) (h : GvA S tr σ H [.val (.ref src), .val (.int (top : Int))]) (h1 : 1 ≤ top) (h2 : top ≤ 100000) : Ge S (tCall sp_law_take [] E0 tr) σ H fun v _ => ∃ r : Nat, r < top ∧ v = .int (r : Int) :=
  ge_call h fun H1 vs a hvs Q k => by
    obtain ⟨u, w, rfl, hu, hw⟩ := isL2 hvs
    cases hu
    cases hw
    exact ⟨src, top, rfl, hS.j _ a.j', h1, h2, fun r H' t hr => k _ H' (hS.t a.j' t) ⟨r, hr, rfl⟩⟩

theorem sc_law_one : FnScope ["_law_source", "_law_things"] ["_law_source", "_law_things"] (defScope s_law_one) := ⟨rfl, rfl, rfl, by decide +kernel, rfl, by decide +kernel, by decide +kernel⟩
theorem ok_law_one (T : Tx mg) (F : DfD K mg "_law_one" s_law_one) (G_law_take : Gd P w K mg base "_law_take" 1 sp_law_take) : Gd P w K mg base "_law_one" 2 sp_law_one := gd_of (N := ["_law_source", "_law_things"]) F sc_law_one (fun _ _ _ _ _ _ us hl => match us, hl with | [_, _], _ => rfl) (fun vs H Q E h => by
    obtain ⟨src, l, xs, rfl, j, nl, hl, x1, x2, k⟩ := h
    rfl) fun f cdv A outer s H vs Q E hr hsp => by
  obtain ⟨src, l, xs, rfl, j, nl, hl, x1, x2, k⟩ := hsp
  refine ⟨_, (pss_one (ps_ret (pe_ix ix_list (pv 1) (pe_gd G_law_take hr (pa_cons (pv 0) (pa_cons (pe_cb call_len_seq T.len boot_len (pa_cons (pv 1) pa_nil)) pa_nil))) (fun _ _ => rfl)))), ?_⟩
  have at' : ∀ H1, (SS src).T H H1 → H1 l = some (.lst xs) := fun H1 a => a.k l _ nl hl
  refine ⟨.ref l, rfl, ge_take hasSS (ga_two (gv_val rfl) (gv_lenV (gv_val rfl) at')) x1 x2 H (.refl j) _ fun v H2 a2 ⟨r, hr, ev⟩ => ?_⟩
  subst ev
  exact ⟨l, xs, r, xs[r], rfl, rfl, SqL.of (at' H2 a2), atI_nat (List.getElem?_eq_getElem hr), k _ H2 a2 (List.getElem_mem hr)⟩

theorem sc_law_some : FnScope ["_law_source", "_law_things", "_law_thing"] ["_law_source", "_law_things"] (defScope s_law_some) := ⟨rfl, rfl, rfl, by decide +kernel, rfl, by decide +kernel, by decide +kernel⟩
theorem ok_law_some (T : Tx mg) (F : DfD K mg "_law_some" s_law_some) (G_law_take : Gd P w K mg base "_law_take" 1 sp_law_take) : Gd P w K mg base "_law_some" 2 sp_law_some := gd_of (N := ["_law_source", "_law_things", "_law_thing"]) F sc_law_some (fun _ _ _ _ _ _ us hl => match us, hl with | [_, _], _ => rfl) (fun vs H Q E h => by
    obtain ⟨src, l, xs, rfl, j, nl, hl, x2, k⟩ := h
    rfl) fun f cdv A outer s H vs Q E hr hsp => by
  obtain ⟨src, l, xs, rfl, j, nl, hl, x2, k⟩ := hsp
  refine ⟨_, (pss_one (ps_ret (pe_lc (own := [("_law_thing", 2)]) (g := (gName 2)) (tt := (tTest (tOp _ (tCall _ [] E0 (tCons (tVar 0) (tCons (tC _) tNil))) (tC _)))) (te := (tVar 2)) rfl sc_law_some.nd (pi_list (pv 1)) (blkOk_by (N := ["_law_source", "_law_things", "_law_thing"]) (sc := defScope s_law_some) (by decide +kernel)) (fun _ _ _ _ _ => (pgn 2 sc_law_some.nd)) (fun _ _ _ _ _ => (pts_one (pt_cmpR op_eq (pe_gd G_law_take hr (pa_cons (pv 0) (pa_cons pe_int pa_nil))) pe_int (nomark _)))) (fun _ _ _ _ _ => (pv 2))))), ?_⟩
  have at' : ∀ H1, (SS src).T H H1 → H1 l = some (.lst xs) := fun H1 a => a.k l _ nl hl
  refine ge_lcN (S := SS src) (Pn := fun n => n = xs.length) (Inv := fun i os => ∃ ys : List V, os = ys.map Ob.val ∧ ys.Sublist (xs.take i)) (GvI.num (gi_list (l := xs) (Y := fun z v _ => v = z) (gv_val rfl) at' rfl fun i x z H1 a e1 e2 => by rw [e1] at e2; exact Option.some.inj e2)) (fun n e => e ▸ x2) ⟨[], rfl, List.nil_sublist _⟩ (fun i os ⟨ys, e, h⟩ => by rw [e, List.length_map]; exact Nat.le_trans h.length_le (List.length_take_le ..)) ?_ H (.refl j) _ ?_
  · rintro n i x H1 acc rfl hi a ⟨z, hz, ez⟩ ⟨ys, rfl, h⟩
    have ez : x = z := ez
    subst ez
    have e1 : xs.take (i + 1) = xs.take i ++ [x] := by rw [List.take_add_one, hz]; rfl
    refine ⟨_, fun Q q => q, rfl, fun H2 a2 Q q1 q2 => ?_⟩
    refine ge_take hasSS (top := 2) (ga_two (gv_val rfl) gv_int) (by decide) (by decide) H2 a2.fin _ fun v H3 a3 ⟨r, hr, ev⟩ => ?_
    subst ev
    refine ⟨by rfl, _, rfl, ?_⟩
    by_cases e : r = 1
    · subst e
      exact q2 H3 a3 fun H4 a4 Q k => ⟨x, rfl, k x H4 a4.fin ⟨.val x, rfl, ys ++ [x], by simp, by rw [e1]; exact h.append (.refl _)⟩⟩
    · have : decide (V.int (r : Int) = V.int 1) = false := decide_eq_false fun q => e (by cases q; rfl)
      rw [this]
      exact q1 H3 a3 ⟨ys, rfl, by rw [e1]; exact h.trans (List.sublist_append_left _ _)⟩
  · rintro v H2 a2 ⟨n, p, zs, os, rfl, rfl, hp, hz, hi, ys, rfl, h⟩
    rw [val_isL hi] at hz
    rw [List.take_length] at h
    exact k p ys H2 hp a2 hz h

theorem sc_law_mixed : FnScope ["_law_source", "_law_things", "_law_rest", "_law_found", "_law_at"] ["_law_source", "_law_things"] (defScope s_law_mixed) := ⟨rfl, rfl, rfl, by decide +kernel, rfl, by decide +kernel, by decide +kernel⟩
theorem ok_law_mixed (T : Tx mg) (F : DfD K mg "_law_mixed" s_law_mixed) (G_law_take : Gd P w K mg base "_law_take" 1 sp_law_take) : Gd P w K mg base "_law_mixed" 2 sp_law_mixed := gd_of (N := ["_law_source", "_law_things", "_law_rest", "_law_found", "_law_at"]) F sc_law_mixed (fun _ _ _ _ _ _ us hl => match us, hl with | [_, _], _ => rfl) (fun vs H Q E h => by
    obtain ⟨src, l, xs, rfl, j, nl, hl, x2, k⟩ := h
    rfl) fun f cdv A outer s H vs Q E hr hsp => by
  obtain ⟨src, l, xs, rfl, j, nl, hl, x2, k⟩ := hsp
  refine ⟨_, (pss_cons (ps_par (i := 2) (j := 3) rfl sc_law_mixed.nd rfl rfl (by decide) (by rfl) (by rfl) (pa_cons (pe_ct call_list_of T.list boot_list (pa_cons (pv 1) pa_nil)) (pa_cons (pe_lst pa_nil) pa_nil)) (by rfl))
    (pss_cons (ps_for PassesOwn.never rfl (pi_range1 (by rfl) T.range (pa_cons (pe_cb call_len_seq T.len boot_len (pa_cons (pv 1) pa_nil)) pa_nil)) (pgn 4 sc_law_mixed.nd) (pss_one (ps_expr (pe_bm PySem.F.plainAttrs_list PySem.F.slot_list_append PySem.F.type_list_append mt_append (pv 3) (pa_cons (pe_bm PySem.F.plainAttrs_list PySem.F.slot_list_pop PySem.F.type_list_pop mt_popAt (pv 2) (pa_cons (pe_gd G_law_take hr (pa_cons (pv 0) (pa_cons (pe_cb call_len_seq T.len boot_len (pa_cons (pv 2) pa_nil)) pa_nil))) pa_nil)) pa_nil)))))
    (pss_one (ps_ret (pv 3))))), ?_⟩
  have at' : ∀ H1, (SS src).T H H1 → H1 l = some (.lst xs) := fun H1 a => a.k l _ nl hl
  refine gx_par (S := SS src) (R := fun v w H' => ∃ p1 p2 H1, v = .ref p1 ∧ w = .ref p2 ∧ H p1 = none ∧ (SS src).T H H1 ∧ H1 p1 = some (.lst xs) ∧ H1 p2 = none ∧ H' = upd H1 p2 (.lst []))
    (ga_e2 (gl_listV (K := K) (os := xs.map Ob.val) (gv_val rfl) at' (fun H1 a => isL_val)).ge fun v H1 a1 ⟨p1, ys, ev, hp1, _, he1, hx⟩ H2 a2 Q kk => ⟨Nat.zero_le _, fun p2 hp2 => kk _ _ (.new a2.j' hp2) ⟨p1, p2, H2, ev, rfl, hp1, a1.trans a2, a2.k _ _ (Sys.notM j hp1) (by rw [he1, val_isL hx]), hp2, rfl⟩⟩) H (.refl j) _ ?_
  rintro _ H2 a02 ⟨_, _, rfl, p1, p2, H1, rfl, rfl, hp1, a1, he1, hp2, eH2⟩
  have hH2 := eH2.symm
  have n1 : ¬ (SS src).M p1 := Sys.notM j hp1
  have j1 : ((SS src).add p1).J H1 := Sys.add_mk a1.j' n1 he1
  have b2 : ((SS src).add p1).T H1 H2 := by rw [← hH2]; exact .new j1 hp2
  have n2 : ¬ ((SS src).add p1).M p2 := Sys.notM j1 hp2
  have he2 : H2 p2 = some (.lst []) := by rw [← hH2]; exact upd_same
  have j2 : (((SS src).add p1).add p2).J H2 := Sys.add_mk b2.j' n2 he2
  have n12 : p1 ≠ p2 := fun e => n2 (.inr e.symm)
  have l1 : l ≠ p1 := fun e => by rw [e, hp1] at hl; cases hl
  have l2 : l ≠ p2 := fun e => by rw [e] at l1; have := a1.k l _ nl hl; rw [e, hp2] at this; cases this
  have at2 : H2 l = some (.lst xs) := b2.k l _ (fun m => m.elim nl l1) (at' H1 a1)
  have he12 : H2 p1 = some (.lst xs) := by rw [← hH2, upd_ne n12]; exact he1
  have tyl : ∀ {p : Addr} {zs : List V} {H3 : Hp}, H3 p = some (.lst zs) → tyV K "list" (.ref p) H3 := fun h => .inl ⟨rfl, _, SqL.of h⟩
  refine loop_at (S := ((SS src).add p1).add p2) (l := List.range xs.length) (gi_rngA (n := xs.length) j2 (ga_one (gv_lenV (gv_val (i := 1) rfl) fun H3 a => S0.same a _ _ at2)) x2) j2
    (fun i σ' H' => ∃ (rest fnd : List V) (u : Option V), σ' = [some (.ref src), some (.ref l), some (.ref p1), some (.ref p2), u] ∧ H' p1 = some (.lst rest) ∧ H' p2 = some (.lst fnd) ∧ rest.length + i = xs.length ∧ fnd.length = i ∧ (fnd ++ rest).Perm xs)
    (fun H3 s => ⟨xs, [], none, rfl, s _ _ he12, s _ _ he2, rfl, rfl, .refl _⟩) (fun i z x σ' H' hz a hq hy => ?_) fun σ' H3 a3 hq => ?_
  · obtain ⟨H0, ⟨rest, fnd, u, rfl, r1, r2, r3, r4, r5⟩, s⟩ := hq
    have r1 := s _ _ r1
    have r2 := s _ _ r2
    have hi : i < xs.length := by have := (List.getElem?_eq_some_iff.mp hz).1; rwa [List.length_range] at this
    refine ⟨_, fun Q q => q, fun D' _ kk _ => ?_⟩
    refine ⟨.ref p2, rfl, tyl r2, .ref p1, rfl, tyl r1, ?_⟩
    have nM1 : ¬ (SS src).M p1 := n1
    have nM2 : ¬ (SS src).M p2 := fun m => n2 (.inl m)
    have jS : SrcOk src H' := a.j'.1.1
    refine ge_take (S := SS src) hasSS (top := rest.length) (ga_two (gv_val rfl) (gv_lenV (xs := rest) (gv_val (i := 2) rfl) fun H5 a5 => a5.k _ _ nM1 r1)) (by omega) (by omega) H' (.refl jS) _ fun v H5 a5 ⟨r, hr, ev⟩ => ?_
    subst ev
    have q1 := a5.k _ _ nM1 r1
    have q2 := a5.k _ _ nM2 r2
    have t5 : (((SS src).add p1).add p2).T H' H5 := Sys.T.lift a.j' (Sys.T.lift a.j'.1 a5)
    refine ⟨p1, rest, (r : Int), r, rest[r], rfl, rfl, q1, by omega, by omega, PySem.StrLaws.seqIndex_nonneg (by omega) (by omega), List.getElem?_eq_getElem hr, ?_⟩
    have t6 : (((SS src).add p1).add p2).T H5 (upd H5 p1 (.lst (rest.eraseIdx r))) := Sys.T.lift t5.j' (Sys.T.put t5.j'.1)
    have q2' : upd H5 p1 (.lst (rest.eraseIdx r)) p2 = some (.lst fnd) := by rw [upd_ne n12.symm]; exact q2
    refine ⟨p2, fnd, rest[r], rfl, rfl, q2', small (by omega), ?_⟩
    refine kk _ _ ((t5.trans t6).trans (Sys.T.put t6.j')) ⟨rest.eraseIdx r, fnd ++ [rest[r]], _, rfl, by rw [upd_ne n12, upd_same], upd_same, ?_, by rw [List.length_append, r4]; rfl, ?_⟩
    · rw [List.length_eraseIdx, if_pos hr]
      omega
    · refine List.Perm.trans ?_ r5
      rw [List.append_assoc]
      exact (erase_perm hr).append_left fnd
  · obtain ⟨rest, fnd, u, rfl, r1, r2, r3, r4, r5⟩ := hq
    rw [List.length_range] at r3 r4
    have e : rest = [] := List.eq_nil_of_length_eq_zero (by omega)
    subst e
    rw [List.append_nil] at r5
    exact ⟨.ref p2, rfl, k p2 fnd H3 (a1.free hp2) (a1.drop hp1 (b2.drop hp2 a3)) r2 r5⟩

end
end Ed

set_option maxHeartbeats 1000000
/-! EdAm: all hands of such sizes. -/
namespace Ed
open PySem PySem.Spec PyProof.Rows L2
def amExt (n : Int) (h : List Int) : List (List Int) := (List.range n.toNat).map fun k : Nat => h ++ [(k : Int)]
def amStep (f : List (List Int)) (n : Int) : List (List Int) := f.flatMap (amExt n)
def allAm (s : List Int) : List (List Int) := s.foldl amStep [[]]
theorem allAm_snoc (s : List Int) (n : Int) : allAm (s ++ [n]) = amStep (allAm s) n := by simp [allAm]
theorem amExt_len {n : Int} {h : List Int} (hn : n ≤ 6) : (amExt n h).length ≤ 6 := by
  rw [amExt, List.length_map, List.length_range]
  omega
theorem flat_len {n : Int} (hn : n ≤ 6) : ∀ f : List (List Int), (f.flatMap (amExt n)).length ≤ 6 * f.length
  | [] => by simp
  | h :: f => by
    have := flat_len hn f
    have := amExt_len (h := h) hn
    rw [List.flatMap_cons, List.length_append, List.length_cons]
    omega
theorem Ok1.snoc {s h : List Int} {n k : Int} (o : Ok1 s h) (h0 : 0 ≤ k) (h1 : k < n) : Ok1 (s ++ [n]) (h ++ [k]) := by
  refine ⟨by simp [o.1], fun p hp => ?_⟩
  rw [List.zip_append o.1] at hp
  rcases List.mem_append.mp hp with hp | hp
  · exact o.2 p hp
  · simp at hp
    subst hp
    exact ⟨h0, h1⟩
/-- a property of all sizes, size by size -/
theorem am_all {s : List Int} (hs : ∀ n ∈ s, 2 ≤ n ∧ n ≤ 6) : (allAm s).length ≤ 6 ^ s.length ∧ 1 ≤ (allAm s).length ∧ (∀ h ∈ allAm s, Ok1 s h) ∧ (allAm s).Nodup := by
  have key : ∀ r : List Int, (∀ n ∈ r, 2 ≤ n ∧ n ≤ 6) → (allAm r.reverse).length ≤ 6 ^ r.length ∧ 1 ≤ (allAm r.reverse).length ∧ (∀ h ∈ allAm r.reverse, Ok1 r.reverse h) ∧ (allAm r.reverse).Nodup := by
    intro r
    induction r with
    | nil =>
      intro _
      refine ⟨by decide, by decide, fun h hh => ?_, by decide⟩
      have e : h = [] := by simpa [allAm] using hh
      subst e
      exact ⟨rfl, fun p hp => by simp at hp⟩
    | cons n r ih =>
      intro hr
      obtain ⟨i1, i2, i3, i4⟩ := ih fun m hm => hr m (by simp [hm])
      have hn := hr n (by simp)
      rw [List.reverse_cons, allAm_snoc]
      refine ⟨?_, ?_, ?_, ?_⟩
      · have := flat_len hn.2 (allAm r.reverse)
        show ((allAm r.reverse).flatMap (amExt n)).length ≤ _
        rw [List.length_cons, Nat.pow_succ]
        omega
      · obtain ⟨h, hh⟩ := List.exists_mem_of_length_pos i2
        have m : h ++ [0] ∈ amStep (allAm r.reverse) n := List.mem_flatMap.mpr ⟨h, hh, List.mem_map.mpr ⟨0, List.mem_range.mpr (by omega), rfl⟩⟩
        exact List.length_pos_of_mem m
      · intro h hh
        obtain ⟨g, hg, hm⟩ := List.mem_flatMap.mp hh
        obtain ⟨k, hk, rfl⟩ := List.mem_map.mp hm
        have := List.mem_range.mp hk
        exact (i3 g hg).snoc (by omega) (by omega)
      · refine List.pairwise_flatMap.mpr ⟨fun h _ => ?_, i4.imp fun {g h} ne x hx y hy => ?_⟩
        · refine List.pairwise_map.mpr ((List.nodup_range (n := n.toNat)).imp fun {a b} ne e => ?_)
          simp at e
          exact ne (by omega)
        · obtain ⟨a, _, rfl⟩ := List.mem_map.mp hx
          obtain ⟨b, _, rfl⟩ := List.mem_map.mp hy
          intro e
          exact ne (List.append_inj' e rfl).1
  have := key s.reverse fun n hn => hs n (List.mem_reverse.mp hn)
  simpa using this
theorem pow_le36 {n : Nat} (h : n ≤ 2) : 6 ^ n ≤ 36 := Nat.pow_le_pow_right (n := 6) (by decide) h
theorem take_flat {f : List (List Int)} {n : Int} {i : Nat} {h : List Int} (e : f[i]? = some h) : (f.take (i + 1)).flatMap (amExt n) = (f.take i).flatMap (amExt n) ++ amExt n h := by
  rw [List.take_add_one, e, List.flatMap_append]
  simp
theorem take_am {s : List Int} {i : Nat} {n : Int} (e : s[i]? = some n) : allAm (s.take (i + 1)) = amStep (allAm (s.take i)) n := by
  rw [List.take_add_one, e]
  exact allAm_snoc _ _
theorem reps_append {H : Hp} {xs ys : List V} {ds es : List PyData} (h : Reps H xs ds) (h2 : Reps H ys es) : Reps H (xs ++ ys) (ds ++ es) := by
  have := h.isL.append h2.isL
  rw [← List.map_append] at this
  exact this.reps
end Ed

set_option maxHeartbeats 1000000
/-! EdD5: all hands, kinds drawn. -/
namespace Ed
open PySem PySem.Spec PyProof.Rows L2
section
variable {P : Program} {w : World} {K : PySem.W.Frag} {mg : Str → Option Value} {base : Heap}
abbrev sp_law_v_all_amounts : Sp := SpL (ι := List Int) (fun s => [.dat (tupI s)]) (fun s => s.length ≤ 2 ∧ ∀ n ∈ s, 2 ≤ n ∧ n ≤ 6) (fun s => ((allAm s).map tupI).map Ob.dat)
theorem tyl {p : Addr} {zs : List V} {H3 : Hp} (h : H3 p = some (.lst zs)) : tyV K "list" (.ref p) H3 := .inl ⟨rfl, _, SqL.of h⟩

theorem sc_law_v_all_amounts : FnScope ["_law_sizes", "_law_found", "_law_size", "_law_longer", "_law_one_here", "_law_number"] ["_law_sizes"] (defScope s_law_v_all_amounts) := ⟨rfl, rfl, rfl, by decide +kernel, rfl, by decide +kernel, by decide +kernel⟩
theorem ok_law_v_all_amounts (T : Tx mg) (F : DfD K mg "_law_v_all_amounts" s_law_v_all_amounts)  : Gd P w K mg base "_law_v_all_amounts" 1 sp_law_v_all_amounts := gd_list (N := ["_law_sizes", "_law_found", "_law_size", "_law_longer", "_law_one_here", "_law_number"]) F sc_law_v_all_amounts (fun _ _ _ _ _ _ us hl => match us, hl with | [_], _ => rfl) (fun _ => rfl) fun f cdv A outer s H H0 E vs i hr hv hp => by
  obtain ⟨v0, rfl, h0⟩ := isL1 hv
  refine ⟨_, (pss_cons (psn 1 sc_law_v_all_amounts.nd (pe_lst (pa_cons (pe_tup pa_nil) pa_nil)))
    (pss_cons (ps_for PassesOwn.never rfl (pi_tup (pv 0)) (pgn 2 sc_law_v_all_amounts.nd) (pss_cons (psn 3 sc_law_v_all_amounts.nd (pe_lst pa_nil))
    (pss_cons (ps_for PassesOwn.never rfl (pi_list (pv 1)) (pgn 4 sc_law_v_all_amounts.nd) (pss_one (ps_expr (pe_bm PySem.F.plainAttrs_list PySem.F.slot_list_extend PySem.F.type_list_extend mt_extend (pv 3) (pa_cons (pe_lc (own := [("_law_number", 5)]) (g := (gName 5)) (tt := tYes) (te := (tOp (rCatA K) (tVar 4) (tTup (tCons (tVar 5) tNil)))) rfl sc_law_v_all_amounts.nd (pi_range1 (by rfl) T.range (pa_cons (pv 2) pa_nil)) (blkOk_by (N := ["_law_sizes", "_law_found", "_law_size", "_law_longer", "_law_one_here", "_law_number"]) (sc := defScope s_law_v_all_amounts) (by decide +kernel)) (fun _ _ _ _ _ => (pgn 5 sc_law_v_all_amounts.nd)) (fun _ _ _ _ _ => pts_nil) (fun _ _ _ _ _ => (pe_op op_catA (pv 4) (pe_tup (pa_cons (pv 5) pa_nil))))) pa_nil)))))
    (pss_one (psn 1 sc_law_v_all_amounts.nd (pv 3))))))
    (pss_one (ps_ret (pv 1))))), ?_⟩
  obtain ⟨p1, p2⟩ := hp
  intro H1 a1 D k
  have h0 := h0.to a1
  refine gx_set (S := S0) (gl_lst (S := S0) (os := (([[]] : List (List Int)).map tupI).map Ob.dat) (ga_one (gv_tup (ds := []) ga_nil (by decide))) (by decide)).ge H1 (.refl trivial) _ ?_
  rintro _ H2 a2 ⟨_, ⟨q0, xs0, rfl, hq0, _, he0, hx0⟩, rfl⟩
  have h0 := h0.to a2
  refine loop_at (S := S0) (l := i) (gi_tupA (enc := .int) (gv_var rfl h0)) trivial (fun j σ' H' => ∃ (q : Addr) (xs : List V) (u2 u3 u4 u5 : Option V), σ' = [some v0, some (.ref q), u2, u3, u4, u5] ∧ S0.T H2 H' ∧ H1 q = none ∧ H' q = some (.lst xs) ∧ Reps H' xs ((allAm (i.take j)).map tupI))
    (fun H3 s => ⟨q0, xs0, none, none, none, none, rfl, S0.of s, hq0, s _ _ he0, (hx0.reps).mono (Same.tups s)⟩) (fun j z x σ' H3 hz a3 hq hy => ?_) fun σ' H3 a3 hq => ?_
  · obtain ⟨H0', ⟨q, xs, u2, u3, u4, u5, rfl, t0, hq, r1, r2⟩, s3⟩ := hq
    have r1 := s3 _ _ r1
    have r2 := r2.mono (Same.tups s3)
    have t0 := t0.trans (S0.of s3)
    have ez : x = .int z := Rep.inv_int hy
    subst ez
    have zz := p2 z (List.mem_of_getElem? hz)
    refine ⟨_, fun Q q => q, fun D' _ kk _ => ?_⟩
    refine ⟨Nat.zero_le _, fun q3 hq3 => ?_⟩
    generalize hH4 : upd H3 q3 (.lst []) = H4
    have a4 : S0.T H3 H4 := by rw [← hH4]; exact .new trivial hq3
    have e4 : H4 q3 = some (.lst []) := by rw [← hH4]; exact upd_same
    have j4 : (S0.add q3).J H4 := Sys.add_mk trivial (fun m => m) e4
    have nq : q ≠ q3 := fun e => by rw [e, hq3] at r1; cases r1
    have r1 := a4.k _ _ (fun m => m) r1
    have r2 := r2.mono a4.tups
    have tk : (∀ n ∈ i.take j, 2 ≤ n ∧ n ≤ 6) := fun n hn => p2 n (List.mem_of_mem_take hn)
    obtain ⟨f1, f2, f3, f4⟩ := am_all tk
    have f5 := Nat.le_trans f1 (pow_le36 (Nat.le_trans (List.length_take_le' _ _) p1))
    generalize hfd : allAm (i.take j) = fd at *
    have lx : xs.length = fd.length := by rw [r2.length, List.length_map]
    have nn : ¬ (S0.add q3).M q := fun m => m.elim (fun m => m) nq
    refine loop_at (S := S0.add q3) (l := fd) (gi_listA (S := S0.add q3) (xs := xs) (Y := YD tupI) (gv_val rfl) r1 lx (fun H5 s5 H6 a6 => a6.k _ _ nn (s5 _ _ r1)) fun m x y H5 s5 H6 a6 e1 e2 => ((r2.mono (Same.tups s5)).mono a6.tups).get e1 (by rw [List.getElem?_map, e2]; rfl)) j4
      (fun m σ' H' => ∃ (ys : List V) (u4 u5 : Option V), σ' = [some v0, some (.ref q), some (.int z), some (.ref q3), u4, u5] ∧ (S0.add q3).T H4 H' ∧ H' q3 = some (.lst ys) ∧ Reps H' ys (((fd.take m).flatMap (amExt z)).map tupI))
      (fun H5 s5 => ⟨[], u4, u5, rfl, .of_same j4 s5, s5 _ _ e4, .nil⟩) (fun m g x σ' H5 hz5 a5 hq5 hy5 => ?_) fun σ' H5 a5 hq5 => ?_
    · obtain ⟨H0', ⟨ys, w4, w5, rfl, t5, e5, r5⟩, s5⟩ := hq5
      have e5 := s5 _ _ e5
      have r5 := r5.mono (Same.tups s5)
      have t5 := t5.trans (.of_same t5.j' s5)
      have lf := flat_len zz.2 (fd.take m)
      have lfd : (fd.take m).length ≤ fd.length := List.length_take_le' _ _
      refine ⟨_, fun Q q => q, fun D' _ kk _ => ⟨.ref q3, rfl, tyl e5, ?_⟩⟩
      have g6 : g.length ≤ 2 := by have := (f3 g (List.mem_of_getElem? hz5)).1; rw [this]; exact Nat.le_trans (List.length_take_le' _ _) p1
      refine ga_L1 (S := S0) ((gl_lc1y (l := List.range z.toNat) (f := fun k : Nat => Ob.dat (tupI (g ++ [(k : Int)]))) (gi_rng1 (n := z.toNat) (ga_one (Gv.int_cast (gv_val rfl) (by omega))) (by omega)) (by rw [List.length_range]; omega) (fun _ => rfl) fun j' k' x2 H6 hz6 a6 hy6 => ?_).cast (ps := ((amExt z g).map tupI).map Ob.dat) (by rw [amExt, List.map_map, List.map_map]; rfl)) H5 (.refl trivial) _ ?_
      · have hx6 := yi0 hy6
        subst hx6
        exact (gv_op (gv_vd rfl (Rep.mono a6.tups hy5)) (gv_tup (ds := [.int (k' : Int)]) (ga_one (Gv.int_dat (gv_val rfl))) (by show 1 ≤ 100000; decide)) (rg_catT (ds := g.map .int) (es := [.int (k' : Int)]) (by rw [List.length_map]; show g.length + 1 ≤ _; omega))).cast (by rw [tupI, List.map_append]; rfl)
      · rintro vs H6 a6 ⟨p6, zs, rfl, hp6, e6, x6⟩
        have nq6 : p6 ≠ q3 := fun e => by rw [e, e5] at hp6; cases hp6
        have e5 := S0.same a6 _ _ e5
        have r5 := r5.mono a6.tups
        have ly : ys.length ≤ 6 * fd.length := by rw [r5.length, List.length_map]; omega
        have lz : zs.length ≤ 6 := by rw [x6.length, List.length_map, List.length_map]; exact amExt_len zz.2
        have t6 : (S0.add q3).T H5 H6 := Sys.T.lift t5.j' a6
        refine ⟨q3, p6, ys, zs, rfl, rfl, e5, e6, small (by omega), kk _ _ (t6.trans (Sys.T.put t6.j')) ⟨ys ++ zs, _, _, rfl, t5.trans (t6.trans (Sys.T.put t6.j')), upd_same, ?_⟩⟩
        rw [take_flat hz5, List.map_append]
        exact (reps_append r5 x6.reps).mono (Sys.T.put (xs := ys ++ zs) t6.j').tups
    · obtain ⟨ys, w4, w5, rfl, t5, e5, r5⟩ := hq5
      rw [List.take_length] at r5
      have td : S0.T H3 H5 := a4.drop hq3 t5
      refine ⟨.ref q3, rfl, kk _ H5 td ⟨q3, ys, _, _, _, _, rfl, t0.trans td, (a2.trans t0).free hq3, e5, ?_⟩⟩
      rw [take_am hz, hfd]
      exact r5
  · obtain ⟨q, xs, u2, u3, u4, u5, rfl, t0, hq, r1, r2⟩ := hq
    rw [List.take_length] at r2
    exact ⟨.ref q, rfl, k q xs H3 hq (a2.trans t0) r1 r2.isL⟩

/-- one of a written list -/
theorem ge_one {S : Sys} {src : Addr} {σ : L2.St} {H : Hp} {te ta : TE} {is : List Int} (hS : HasSrc src S) (ha : Gv S ta σ H (.val (.ref src))) (h : GvL S te σ H (is.map fun i => Ob.val (.int i))) (h1 : 1 ≤ is.length) (h2 : is.length ≤ 100000) : Ge S (tCall sp_law_one [] E0 (tCons ta (tCons te tNil))) σ H fun v _ => ∃ i ∈ is, v = .int i := fun H1 a Q k =>
  ha H1 a _ fun u H2 a2 hu => h H2 (a.trans a2) _ fun p xs H3 hp a3 he hx => by
    cases hu
    have ne : p ≠ src := fun e => S.live H2 src a2.j' hS.m (e ▸ hp)
    have lx : xs.length = is.length := by rw [hx.length, List.length_map]
    refine ⟨src, p, xs, rfl, hS.j _ a3.j', ne, he, by omega, by omega, fun v H' t hv => k v H' ((a2.trans a3).trans (hS.t a3.j' t)) ?_⟩
    obtain ⟨n, hn⟩ := List.mem_iff_getElem?.mp hv
    have hl : n < is.length := by have := (List.getElem?_eq_some_iff.mp hn).1; omega
    have g := hx.get hn (o := .val (.int is[n])) (by rw [List.getElem?_map, List.getElem?_eq_getElem hl]; rfl)
    exact ⟨is[n], List.getElem_mem hl, g⟩
theorem one_ok : (∀ i ∈ ([1, 2, 1, 2, 0] : List Int), ∃ n : Nat, i = (n : Int) ∧ n ≤ 2) ∧ ∀ i ∈ ([2, 3, 2, 4, 5, 6] : List Int), 2 ≤ i ∧ i ≤ 6 := by
  refine ⟨fun i hi => ?_, by decide⟩
  simp only [List.mem_cons, List.not_mem_nil, or_false] at hi
  rcases hi with rfl | rfl | rfl | rfl | rfl
  · exact ⟨1, rfl, by decide⟩
  · exact ⟨2, rfl, by decide⟩
  · exact ⟨1, rfl, by decide⟩
  · exact ⟨2, rfl, by decide⟩
  · exact ⟨0, rfl, by decide⟩
def sp_law_v_sizes : Sp := fun vs H Q _ => ∃ src, vs = [.ref src] ∧ SrcOk src H ∧ ∀ v H' sz, (SS src).T H H' → Rep H' v (tupI sz) → sz.length ≤ 2 → (∀ n ∈ sz, 2 ≤ n ∧ n ≤ 6) → Q v H'
def sp_law_v_kind : Sp := fun vs H Q _ => ∃ src, vs = [.ref src, .int 6] ∧ SrcOk src H ∧ ∀ v H' kd, (SS src).T H H' → Rep H' v (kindD kd) → OkK kd → Q v H'
def sp_law_v_fields : Sp := fun vs H Q _ => ∃ src, vs = [.ref src, .int 2, .int 6] ∧ SrcOk src H ∧ ∀ v H' fs, (SS src).T H H' → Rep H' v (fieldsD fs) → OkF fs → Q v H'
def sp_law_v_some_record : Sp := fun vs H Q _ => ∃ src u fs, vs = [.ref src, u] ∧ SrcOk src H ∧ Rep H u (fieldsD fs) ∧ OkF fs ∧ ∀ v H' r, (SS src).T H H' → Rep H' v (tupI r) → OkR fs r → Q v H'
theorem isL_ints {H : Hp} : ∀ {is : List Int} {os : List Ob}, os = is.map (fun i => Ob.val (.int i)) → ∀ {xs : List V}, IsL H xs os → IsL H xs ((is.map PyData.int).map Ob.dat)
  | [], _, e, _, h => by subst e; cases h; exact .nil
  | i :: is, _, e, _, h => by
    subst e
    cases h with
    | cons h t => exact .cons (by rw [show _ = V.int i from h]; exact .int i) (isL_ints rfl t)

theorem sc_law_v_sizes : FnScope ["_law_source", "_law_place"] ["_law_source"] (defScope s_law_v_sizes) := ⟨rfl, rfl, rfl, by decide +kernel, rfl, by decide +kernel, by decide +kernel⟩
theorem ok_law_v_sizes (T : Tx mg) (F : DfD K mg "_law_v_sizes" s_law_v_sizes) (G_law_one : Gd P w K mg base "_law_one" 2 sp_law_one) : Gd P w K mg base "_law_v_sizes" 3 sp_law_v_sizes := gd_of (N := ["_law_source", "_law_place"]) F sc_law_v_sizes (fun _ _ _ _ _ _ us hl => match us, hl with | [_], _ => rfl) (fun vs H Q E h => by
    obtain ⟨src, rfl, j, k⟩ := h
    rfl) fun f cdv A outer s H vs Q E hr hsp => by
  obtain ⟨src, rfl, j, k⟩ := hsp
  refine ⟨_, (pss_one (ps_ret (pe_ct call_tuple_of T.tuple boot_tuple (pa_cons (pe_lc (own := [("_law_place", 1)]) (g := (gName 1)) (tt := tYes) (te := (tCall _ [] E0 (tCons (tVar 0) (tCons (tLst (tCons (tC _) (tCons (tC _) (tCons (tC _) (tCons (tC _) (tCons (tC _) (tCons (tC _) tNil))))))) tNil)))) rfl sc_law_v_sizes.nd (pi_range1 (by rfl) T.range (pa_cons (pe_gd G_law_one hr (pa_cons (pv 0) (pa_cons (pe_lst (pa_cons pe_int (pa_cons pe_int (pa_cons pe_int (pa_cons pe_int (pa_cons pe_int pa_nil)))))) pa_nil))) pa_nil)) (blkOk_by (N := ["_law_source", "_law_place"]) (sc := defScope s_law_v_sizes) (by decide +kernel)) (fun _ _ _ _ _ => (pgn 1 sc_law_v_sizes.nd)) (fun _ _ _ _ _ => pts_nil) (fun _ _ _ _ _ => (pe_gd G_law_one hr (pa_cons (pv 0) (pa_cons (pe_lst (pa_cons pe_int (pa_cons pe_int (pa_cons pe_int (pa_cons pe_int (pa_cons pe_int (pa_cons pe_int pa_nil))))))) pa_nil))))) pa_nil)))), ?_⟩
  refine ge_tuple (S := SS src) (K := K) (C := fun ds => ∃ sz : List Int, ds = sz.map .int ∧ sz.length ≤ 2 ∧ ∀ n ∈ sz, 2 ≤ n ∧ n ≤ 6) (Ge.imp (ge_lcN (S := SS src) (Pn := fun n => n ≤ 2) (Inv := fun i os => ∃ sz : List Int, os = sz.map (fun i => Ob.val (.int i)) ∧ sz.length = i ∧ ∀ n ∈ sz, 2 ≤ n ∧ n ≤ 6)
    (gi_rngE (Ge.imp (ge_one hasSS (is := [1, 2, 1, 2, 0]) (gv_val rfl) (gl_lst (ga_cons gv_int (ga_cons gv_int (ga_cons gv_int (ga_cons gv_int (ga_cons gv_int ga_nil))))) (by decide)) (by decide) (by decide)) fun v H1 a ⟨i, hi, e⟩ => by
      obtain ⟨n, en, hn⟩ := one_ok.1 i hi
      exact ⟨n, by rw [e, en], hn⟩) fun n hn => Nat.le_trans hn (by decide)) (fun n hn => Nat.le_trans hn (by decide)) ⟨[], rfl, rfl, fun n hn => by cases hn⟩ (fun i os ⟨sz, e, l, _⟩ => by rw [e, List.length_map]; exact Nat.le_of_eq l)
    fun n i x H1 acc pn hi a hx ⟨sz, e, l, h⟩ => ⟨[some (.ref src), some x], fun Q q => q, rfl, fun H2 a2 Q q1 q2 => q2 H2 a2.fin (Ge.imp (ge_one hasSS (is := [2, 3, 2, 4, 5, 6]) (gv_val rfl) (gl_lst (ga_cons gv_int (ga_cons gv_int (ga_cons gv_int (ga_cons gv_int (ga_cons gv_int (ga_cons gv_int ga_nil)))))) (by decide)) (by decide) (by decide)) fun v H3 a3 ⟨u, hu, eu⟩ => ⟨.val (.int u), eu, sz ++ [u], by rw [e, List.map_append]; rfl, by rw [List.length_append, l]; rfl, fun n hn => ?_⟩)⟩) ?_) H (.refl j) _ ?_
  · rcases List.mem_append.mp hn with hn | hn
    · exact h n hn
    · rw [List.mem_singleton.mp hn]
      exact one_ok.2 u hu
  · rintro v H1 a ⟨n, p, xs, os, pn, rfl, hp, hx, hi, sz, e, l, h⟩
    exact ⟨p, xs, sz.map .int, rfl, hx, isL_ints e hi, sz, rfl, by omega, h⟩
  · rintro v H1 a ⟨ds, r, sz, rfl, l, h⟩
    exact k v H1 sz a r l h

theorem sc_law_v_fields : FnScope ["_law_source", "_law_top", "_law_states_top", "_law_field"] ["_law_source", "_law_top", "_law_states_top"] (defScope s_law_v_fields) := ⟨rfl, rfl, rfl, by decide +kernel, rfl, by decide +kernel, by decide +kernel⟩
theorem ok_law_v_fields (T : Tx mg) (F : DfD K mg "_law_v_fields" s_law_v_fields) (G_law_take : Gd P w K mg base "_law_take" 1 sp_law_take) (G_law_v_kind : Gd P w K mg base "_law_v_kind" 4 sp_law_v_kind) : Gd P w K mg base "_law_v_fields" 5 sp_law_v_fields := gd_of (N := ["_law_source", "_law_top", "_law_states_top", "_law_field"]) F sc_law_v_fields (fun _ _ _ _ _ _ us hl => match us, hl with | [_, _, _], _ => rfl) (fun vs H Q E h => by
    obtain ⟨src, rfl, j, k⟩ := h
    rfl) fun f cdv A outer s H vs Q E hr hsp => by
  obtain ⟨src, rfl, j, k⟩ := hsp
  refine ⟨_, (pss_one (ps_ret (pe_ct call_tuple_of T.tuple boot_tuple (pa_cons (pe_lc (own := [("_law_field", 3)]) (g := (gName 3)) (tt := tYes) (te := (tCall _ [] E0 (tCons (tVar 0) (tCons (tVar 2) tNil)))) rfl sc_law_v_fields.nd (pi_range1 (by rfl) T.range (pa_cons (pe_op op_add pe_int (pe_gd G_law_take hr (pa_cons (pv 0) (pa_cons (pv 1) pa_nil)))) pa_nil)) (blkOk_by (N := ["_law_source", "_law_top", "_law_states_top", "_law_field"]) (sc := defScope s_law_v_fields) (by decide +kernel)) (fun _ _ _ _ _ => (pgn 3 sc_law_v_fields.nd)) (fun _ _ _ _ _ => pts_nil) (fun _ _ _ _ _ => (pe_gd G_law_v_kind hr (pa_cons (pv 0) (pa_cons (pv 2) pa_nil))))) pa_nil)))), ?_⟩
  refine ge_tuple (S := SS src) (K := K) (C := fun ds => ∃ fs : List Kd, ds = fs.map kindD ∧ 1 ≤ fs.length ∧ fs.length ≤ 2 ∧ ∀ k ∈ fs, OkK k) (Ge.imp (ge_lcN (S := SS src) (Pn := fun n => 1 ≤ n ∧ n ≤ 2) (Inv := fun i os => ∃ fs : List Kd, os = fs.map (fun i => Ob.dat (kindD i)) ∧ fs.length = i ∧ ∀ n ∈ fs, OkK n)
    (gi_rngE (te := tOp (rI0 fun i j => .int (i + j)) (tC (.int 1)) (tCall sp_law_take [] E0 (tCons (tVar 0) (tCons (tVar 1) tNil)))) (fun H1 a Q q => ge_take hasSS (top := 2) (ga_two (gv_val rfl) (gv_val rfl)) (by decide) (by decide) H1 a _ fun v H2 a2 ⟨r, hr, ev⟩ => ⟨1, (r : Int), rfl, ev, q _ H2 a2 ⟨1 + r, by rw [Int.natCast_add]; rfl, by omega, by omega⟩⟩) fun n hn => by omega) (fun n hn => by omega) ⟨[], rfl, rfl, fun n hn => by cases hn⟩ (fun i os ⟨sz, e, l, _⟩ => by rw [e, List.length_map]; exact Nat.le_of_eq l)
    fun n i x H1 acc pn hi a hx ⟨fs, e, l, h⟩ => ⟨[some (.ref src), some (.int 2), some (.int 6), some x], fun Q q => q, rfl, fun H2 a2 Q q1 q2 => q2 H2 a2.fin (ge_call (R := fun v H' => ∃ o, Is H' v o ∧ ∃ fs : List Kd, acc ++ [o] = fs.map (fun i => Ob.dat (kindD i)) ∧ fs.length = i + 1 ∧ ∀ n ∈ fs, OkK n) (ga_two (gv_val rfl) (gv_val rfl)) fun H3 vs a3 hvs Q q => ?_)⟩) ?_) H (.refl j) _ ?_
  · obtain ⟨u, w, rfl, hu, hw⟩ := isL2 hvs
    cases hu
    cases hw
    refine ⟨src, rfl, a3.j', fun v H' kd t r ok => q v H' t ⟨.dat (kindD kd), r, fs ++ [kd], by rw [e, List.map_append]; rfl, by rw [List.length_append, l]; rfl, fun n hn => ?_⟩⟩
    rcases List.mem_append.mp hn with hn | hn
    · exact h n hn
    · rw [List.mem_singleton.mp hn]
      exact ok
  · rintro v H1 a ⟨n, p, xs, os, pn, rfl, hp, hx, hi, fs, e, l, h⟩
    exact ⟨p, xs, fs.map kindD, rfl, hx, by rw [List.map_map]; exact e ▸ hi, fs, rfl, by omega, by omega, h⟩
  · rintro v H1 a ⟨ds, r, fs, rfl, l1, l2, h⟩
    exact k v H1 fs a r ⟨l1, by omega, h⟩

theorem sc_law_v_some_record : FnScope ["_law_source", "_law_sorts", "_law_sort"] ["_law_source", "_law_sorts"] (defScope s_law_v_some_record) := ⟨rfl, rfl, rfl, by decide +kernel, rfl, by decide +kernel, by decide +kernel⟩
theorem ok_law_v_some_record (T : Tx mg) (F : DfD K mg "_law_v_some_record" s_law_v_some_record) (G_law_take : Gd P w K mg base "_law_take" 1 sp_law_take) : Gd P w K mg base "_law_v_some_record" 2 sp_law_v_some_record := gd_of (N := ["_law_source", "_law_sorts", "_law_sort"]) F sc_law_v_some_record (fun _ _ _ _ _ _ us hl => match us, hl with | [_, _], _ => rfl) (fun vs H Q E h => by
    obtain ⟨src, u, fs, rfl, j, ru, ok, k⟩ := h
    rfl) fun f cdv A outer s H vs Q E hr hsp => by
  obtain ⟨src, u, fs, rfl, j, ru, ok, k⟩ := hsp
  refine ⟨_, (pss_one (ps_ret (pe_ct call_tuple_of T.tuple boot_tuple (pa_cons (pe_lc (own := [("_law_sort", 2)]) (g := (gName 2)) (tt := tYes) (te := (tCall _ [] E0 (tCons (tVar 0) (tCons (tCB (rLenSq K) (tCons (tOp (rIxT K) (tVar 2) (tC _)) tNil)) tNil)))) rfl sc_law_v_some_record.nd (pi_tup (pv 1)) (blkOk_by (N := ["_law_source", "_law_sorts", "_law_sort"]) (sc := defScope s_law_v_some_record) (by decide +kernel)) (fun _ _ _ _ _ => (pgn 2 sc_law_v_some_record.nd)) (fun _ _ _ _ _ => pts_nil) (fun _ _ _ _ _ => (pe_gd G_law_take hr (pa_cons (pv 0) (pa_cons (pe_cb call_len_seq T.len boot_len (pa_cons (pe_ix ix_tup (pv 2) pe_int (fun _ _ => rfl)) pa_nil)) pa_nil))))) pa_nil)))), ?_⟩
  have l6 := ok.l6
  refine ge_tuple (S := SS src) (K := K) (C := fun ds => ∃ r : List Int, ds = r.map .int ∧ OkR fs r) (Ge.imp (ge_lcN (S := SS src) (Pn := fun n => n = fs.length) (Inv := fun i os => ∃ r : List Int, os = r.map (fun i => Ob.val (.int i)) ∧ r.length = i ∧ OkR (fs.take i) r)
    (GvI.num (gi_tup (l := fs) (enc := kindD) (gv_var rfl ru))) (fun n hn => by omega) ⟨[], rfl, rfl, rfl, fun n hn => by cases hn⟩ (fun i os ⟨sz, e, l, _⟩ => by rw [e, List.length_map]; exact Nat.le_of_eq l)
    fun n i x H1 acc pn hi a hx ⟨r, e, l, h⟩ => ?_) ?_) H (.refl j) _ ?_
  · obtain ⟨kd, hkd, hx⟩ := hx
    have okk := ok.k kd (List.mem_of_getElem? hkd)
    refine ⟨[some (.ref src), some u, some x], fun Q q => q, rfl, fun H2 a2 Q q1 q2 => q2 H2 a2.fin (Ge.imp (ge_take hasSS (top := kd.2.length) (ga_two (gv_val rfl) (Gv.int_cast (gv_lenT (ds := kd.2.map tupI) (gv_ixT (i := 1) (gv_vd rfl (Rep.mono a2.tups hx)) gv_int rfl rfl) row_list) (by rw [List.length_map]))) okk.h1 (Nat.le_trans okk.hl (by decide))) fun v H3 a3 ⟨m, hm, em⟩ => ⟨.val (.int (m : Int)), em, r ++ [(m : Int)], by rw [e, List.map_append]; rfl, by rw [List.length_append, l]; rfl, ?_⟩)⟩
    have tk : fs.take (i + 1) = fs.take i ++ [kd] := by rw [List.take_add_one, hkd]; rfl
    rw [tk]
    refine ⟨by rw [List.length_append, List.length_append, h.1]; rfl, fun p hp => ?_⟩
    rw [List.zip_append h.1.symm] at hp
    rcases List.mem_append.mp hp with hp | hp
    · exact h.2 p hp
    · simp at hp
      subst hp
      exact ⟨by show (0 : Int) ≤ (m : Int); omega, by show (m : Int) < (kd.2.length : Int); omega⟩
  · rintro v H1 a ⟨n, p, xs, os, rfl, rfl, hp, hx, hi, r, e, l, h⟩
    rw [List.take_length] at h
    exact ⟨p, xs, r.map .int, rfl, hx, isL_ints e hi, r, rfl, h⟩
  · rintro v H1 a ⟨ds, rr, r, rfl, h⟩
    exact k v H1 r a rr h

end
end Ed

set_option maxHeartbeats 1000000
/-! EdD6: a kind drawn, the source made. -/
namespace Ed
open PySem PySem.Spec PyProof.Rows L2
section
variable {P : Program} {w : World} {K : PySem.W.Frag} {mg : Str → Option Value} {base : Heap}
theorem gv_neg {S : Sys} {σ : L2.St} {H : Hp} {ta : TE} {i : Int} (h : Gv S ta σ H (.val (.int i))) : Gv S (tUn (rU fun i => .int (-i)) ta) σ H (.val (.int (-i))) := fun H1 a Q k => h H1 a _ fun v H2 a2 hv => ⟨i, hv, k _ H2 a2 rfl⟩
/-- mixed: a new list with the same things -/
theorem ge_mixed {S : Sys} {src l : Addr} {xs : List V} {σ : L2.St} {H : Hp} {ta tb : TE} (hS : HasSrc src S) (ha : Gv S ta σ H (.val (.ref src))) (hb : Gv S tb σ H (.val (.ref l))) (hl : ∀ H1, S.T H H1 → H1 l = some (.lst xs)) (nl : l ≠ src) (h2 : xs.length ≤ 100000) :
    Ge S (tCall sp_law_mixed [] E0 (tCons ta (tCons tb tNil))) σ H fun v H' => ∃ p ys, v = .ref p ∧ H p = none ∧ H' p = some (.lst ys) ∧ ys.Perm xs := ge_call (ga_two ha hb) fun H1 vs a hvs Q q => by
  obtain ⟨u, w, rfl, hu, hw⟩ := isL2 hvs
  cases hu
  cases hw
  exact ⟨src, l, xs, rfl, hS.j _ a.j', nl, hl H1 a, h2, fun p ys H' hp t e pm => q _ H' (hS.t a.j' t) ⟨p, ys, rfl, a.free hp, e, pm⟩⟩
theorem ge_allam {S : Sys} {sz : List Int} {σ : L2.St} {H : Hp} {ta : TE} (h : Gv S ta σ H (.dat (tupI sz))) (hp : sz.length ≤ 2 ∧ ∀ n ∈ sz, 2 ≤ n ∧ n ≤ 6) : GvL S (tCall sp_law_v_all_amounts [] E0 (tCons ta tNil)) σ H (((allAm sz).map tupI).map Ob.dat) := gl_call (ι := List Int) sz (ga_one h) hp
/-- some of the things of a new list -/
theorem ge_some {S : Sys} {src : Addr} {os : List Ob} {σ : L2.St} {H : Hp} {ta tb : TE} (hS : HasSrc src S) (ha : Gv S ta σ H (.val (.ref src))) (hb : GvL S tb σ H os) (h2 : os.length ≤ 100000) :
    Ge S (tCall sp_law_some [] E0 (tCons ta (tCons tb tNil))) σ H fun v H' => ∃ p ys xs, v = .ref p ∧ H p = none ∧ H' p = some (.lst ys) ∧ ys.Sublist xs ∧ IsL H' xs os := fun H1 a Q q =>
  ha H1 a _ fun u H2 a2 hu => hb H2 (a.trans a2) _ fun p xs H3 hp a3 he hx => by
    cases hu
    have ne : p ≠ src := fun e => S.live H2 src a2.j' hS.m (e ▸ hp)
    exact ⟨src, p, xs, rfl, hS.j _ a3.j', ne, he, by rw [hx.length]; exact h2, fun p2 ys H' hp2 t e sb => q _ H' ((a2.trans a3).trans (hS.t a3.j' t)) ⟨p2, ys, xs, rfl, a.free (a2.free (a3.free hp2)), e, sb, hx.to (hS.t a3.j' t)⟩⟩
theorem isL_sub {H : Hp} {ys xs : List V} {os : List Ob} (h : IsL H xs os) (s : ys.Sublist xs) : ∃ ps : List Ob, ps.Sublist os ∧ IsL H ys ps := by
  induction s generalizing os with
  | slnil => exact ⟨[], List.nil_sublist _, .nil⟩
  | cons a s ih =>
    cases h with
    | cons h t =>
      obtain ⟨ps, h1, h2⟩ := ih t
      exact ⟨ps, h1.cons _, h2⟩
  | cons_cons a s ih =>
    cases h with
    | cons h t =>
      obtain ⟨ps, h1, h2⟩ := ih t
      exact ⟨_ :: ps, h1.cons_cons _, .cons h h2⟩
/-- good hands: some of all hands -/
structure GoodH (sz : List Int) (hs : List (List Int)) : Prop where
  h1 : 1 ≤ hs.length
  hl : hs.length ≤ 12
  hm : ∀ h ∈ hs, h ∈ allAm sz
  nd : hs.Nodup
theorem GoodH.ok {sz : List Int} {hs : List (List Int)} (g : GoodH sz hs) (l : sz.length ≤ 2) (h : ∀ n ∈ sz, 2 ≤ n ∧ n ≤ 6) : OkK (sz, hs) :=
  ⟨Nat.le_trans l (by decide), fun s hs => (h s hs).1, g.h1, g.hl, fun x hx => (am_all h).2.2.1 x (g.hm x hx), g.nd⟩

theorem sc_law_v_kind : FnScope ["_law_source", "_law_top", "_law_sizes", "_law_every", "_law_held"] ["_law_source", "_law_top"] (defScope s_law_v_kind) := ⟨rfl, rfl, rfl, by decide +kernel, rfl, by decide +kernel, by decide +kernel⟩
theorem ok_law_v_kind (T : Tx mg) (F : DfD K mg "_law_v_kind" s_law_v_kind) (G_law_v_sizes : Gd P w K mg base "_law_v_sizes" 3 sp_law_v_sizes) (G_law_v_all_amounts : Gd P w K mg base "_law_v_all_amounts" 1 sp_law_v_all_amounts) (G_law_mixed : Gd P w K mg base "_law_mixed" 2 sp_law_mixed) (G_law_take : Gd P w K mg base "_law_take" 1 sp_law_take) : Gd P w K mg base "_law_v_kind" 4 sp_law_v_kind := gd_of (N := ["_law_source", "_law_top", "_law_sizes", "_law_every", "_law_held"]) F sc_law_v_kind (fun _ _ _ _ _ _ us hl => match us, hl with | [_, _], _ => rfl) (fun vs H Q E h => by
    obtain ⟨src, rfl, j, k⟩ := h
    rfl) fun f cdv A outer s H vs Q E hr hsp => by
  obtain ⟨src, rfl, j, k⟩ := hsp
  refine ⟨_, (pss_cons (psn 2 sc_law_v_kind.nd (pe_gd G_law_v_sizes hr (pa_cons (pv 0) pa_nil)))
    (pss_cons (psn 3 sc_law_v_kind.nd (pe_gd G_law_v_all_amounts hr (pa_cons (pv 2) pa_nil)))
    (pss_cons (psn 4 sc_law_v_kind.nd (pe_slice sl_list (pe_gd G_law_mixed hr (pa_cons (pv 0) (pa_cons (pv 3) pa_nil))) po_none (po_some (pe_op op_add pe_int (pe_gd G_law_take hr (pa_cons (pv 0) (pa_cons (pe_cb (call_min2 rfl) T.min boot_min (pa_cons (pv 1) (pa_cons (pe_cb call_len_seq T.len boot_len (pa_cons (pv 3) pa_nil)) pa_nil))) pa_nil)))))))
    (pss_cons (ps_if (pt_pw (pw_and (pt_cmpR op_le (pe_cb call_len_seq T.len boot_len (pa_cons (pv 3) pa_nil)) (pv 1) (nomark _)) (pw_and1 (pt_cmpR op_eq (pe_gd G_law_take hr (pa_cons (pv 0) (pa_cons pe_int pa_nil))) pe_int (nomark _))))) (pss_one (psn 4 sc_law_v_kind.nd (pe_gd G_law_mixed hr (pa_cons (pv 0) (pa_cons (pv 3) pa_nil))))) pss_nil)
    (pss_one (ps_ret (pe_tup (pa_cons (pv 2) (pa_cons (pe_ct call_tupleF T.tuple boot_tuple (pa_cons (pv 4) pa_nil)) pa_nil))))))))), ?_⟩
  refine gx_set (S := SS src) (R := fun v H' => ∃ sz, Rep H' v (tupI sz) ∧ sz.length ≤ 2 ∧ ∀ n ∈ sz, 2 ≤ n ∧ n ≤ 6) (ge_call (ga_one (gv_val rfl)) fun H1 vs a hvs Q q => ?_) H (.refl j) _ ?_
  · obtain ⟨u, rfl, hu⟩ := isL1 hvs
    cases hu
    exact ⟨src, rfl, a.j', fun v H' sz t r l h => q v H' t ⟨sz, r, l, h⟩⟩
  rintro _ H1 a1 ⟨v2, ⟨sz, r2, l2, h2⟩, rfl⟩
  obtain ⟨f1, f2, f3, f4⟩ := am_all h2
  have f5 := Nat.le_trans f1 (pow_le36 l2)
  refine gx_set (S := SS src) (ge_allam (gv_vd rfl r2) ⟨l2, h2⟩).ge H1 a1.fin _ ?_
  rintro _ H2 a2 ⟨_, ⟨p, xs, rfl, hp, _, he, hx⟩, rfl⟩
  have r2 := r2.mono a2.tups
  have np : ¬ (SS src).M p := Sys.notM a2.j hp
  have lx : xs.length = (allAm sz).length := by rw [hx.length, List.length_map, List.length_map]
  have at' : ∀ H3, (SS src).T H2 H3 → H3 p = some (.lst xs) := fun H3 a => a.k p _ np he
  have good : ∀ {zs ys : List V} {H3 : Hp}, (SS src).T H2 H3 → ys.Perm xs → zs.Sublist ys → 1 ≤ zs.length → zs.length ≤ 12 → ∃ hs, Reps H3 zs (hs.map tupI) ∧ GoodH sz hs := by
    intro zs ys H3 a pm sb z1 z12
    obtain ⟨es, e1, e2⟩ := reps_perm pm (hx.reps.mono a.tups)
    obtain ⟨ms, m1, rfl⟩ := perm_map e1
    obtain ⟨ps, s1, s2⟩ := isL_sub e2.isL sb
    rw [List.map_map] at s1
    obtain ⟨hs, s3, rfl⟩ := List.sublist_map_iff.mp s1
    have s2 : IsL H3 zs ((hs.map tupI).map Ob.dat) := by rw [List.map_map]; exact s2
    have l3 : zs.length = hs.length := by rw [s2.length, List.length_map, List.length_map]
    exact ⟨hs, s2.reps, by omega, by omega, fun h hh => m1.mem_iff.mp (s3.subset hh), (m1.symm.nodup f4).sublist s3⟩
  have g3 : Gv (SS src) (tCB (rLenSq K) (tCons (tVar 3) tNil)) [some (.ref src), some (.int 6), some v2, some (.ref p), none] H2 (.val (.int (xs.length : Int))) := gv_lenV (gv_val rfl) at'
  dsimp only
  refine gx_set (S := SS src) (R := fun v H' => ∃ q zs hs, v = .ref q ∧ H' q = some (.lst zs) ∧ Reps H' zs (hs.map tupI) ∧ GoodH sz hs) (fun H3 a3 Q q => ?_) H2 a2.fin _ ?_
  · refine ge_mixed hasSS (gv_val rfl) (gv_val rfl) at' np (by omega) H3 a3 _ ?_
    rintro v H4 a4 ⟨q4, ys, rfl, hq4, e4, pm⟩
    have nq4 : ¬ (SS src).M q4 := Sys.notM a3.j hq4
    have ly := pm.length_eq
    have hmin : ∃ m : Nat, (if ((xs.length : Nat) : Int) < 6 then ((xs.length : Nat) : Int) else 6) = (m : Int) ∧ 1 ≤ m ∧ m ≤ 6 ∧ m ≤ xs.length := by
      by_cases c : ((xs.length : Nat) : Int) < 6
      · exact ⟨xs.length, if_pos c, by omega, by omega, Nat.le_refl _⟩
      · exact ⟨6, if_neg c, by decide, by decide, by omega⟩
    obtain ⟨m, em, m1, m6, mx⟩ := hmin
    refine ge_take hasSS (top := m) (ga_two (gv_val rfl) (gv_cb (os := [.val (.int 6), .val (.int (xs.length : Int))]) (ga_two (gv_val rfl) (g3.mono (a3.trans a4))) ?_)) m1 (by omega) H4 a4.fin _ ?_
    · intro H5 a5 vs hvs Q kk
      obtain ⟨u, w, rfl, hu, hw⟩ := isL2 hvs
      cases hu
      cases hw
      exact ⟨6, _, rfl, by rw [em]; exact kk _ H5 a5.fin rfl⟩
    · rintro v H5 a5 ⟨r, hr, rfl⟩
      have e5 := a5.k _ _ nq4 e4
      refine ⟨1, (r : Int), rfl, rfl, _, rfl, q4, ys, rfl, SqL.of e5, fun q6 hq6 => ?_⟩
      have a6 : (SS src).T H5 (upd H5 q6 (.lst (cutV ys none (some (1 + (r : Int)))))) := .new a5.j' hq6
      have ec : cutV ys none (some (1 + (r : Int))) = ys.take (1 + r) := by
        have := cut_take (xs := ys) (n := 1 + r) (by omega)
        rw [← this]
        congr 2
      rw [ec] at a6
      rw [ec]
      obtain ⟨hs, g1, g2⟩ := good ((a3.trans (a4.trans (a5.trans a6)))) pm (List.take_sublist (1 + r) ys) (by rw [List.length_take]; omega) (by rw [List.length_take]; omega)
      exact q _ _ (a4.trans (a5.trans a6)) ⟨q6, _, hs, rfl, upd_same, g1, g2⟩
  rintro _ H3 a3 ⟨_, ⟨q3, zs3, hs3, rfl, e3, rp3, gd3⟩, rfl⟩
  have fin : ∀ (q zs hs) (H4 : Hp), (SS src).T H2 H4 → H4 q = some (.lst zs) → Reps H4 zs (hs.map tupI) → GoodH sz hs → (q = src → False) → tRet (tTup (tCons (tVar 2) (tCons (tCB (rTupF K) (tCons (tVar 4) tNil)) tNil))) { nx := fun _ H' => Q .non H', rt := Q } [some (.ref src), some (.int 6), some v2, some (.ref p), some (.ref q)] H4 := by
    intro q zs hs H4 a4 e4 rp4 gd4 nq
    refine gr_ret (S := SS src) (gv_tup (ds := [tupI sz, .list (hs.map tupI)]) (ga_two (gv_vd rfl (r2.mono a4.tups)) (gv_tupleF (gv_val rfl) (fun H5 a5 => a5.k _ _ nq e4) fun H5 a5 => rp4.mono a5.tups)) (by show 2 ≤ 100000; decide)) H4 a4.fin _ fun v H5 a5 hv => ?_
    exact k v H5 (sz, hs) ((a1.trans a2).trans (a4.trans a5)) hv (gd4.ok l2 h2)
  have nsrc : ∀ {q : Addr} {zs : List V} {hs : List (List Int)} {H4 : Hp}, SrcOk src H4 → H4 q = some (.lst zs) → Reps H4 zs (hs.map tupI) → GoodH sz hs → q = src → False := by
    intro q zs hs H4 j4 e4 rp4 gd4 e
    subst e
    obtain ⟨b, m, e5, _⟩ := j4
    rw [e4] at e5
    cases e5
    cases hs with
    | nil => exact absurd gd4.h1 (by decide)
    | cons h t => rw [List.map_cons] at rp4; cases rp4 with | cons h1 _ => cases h1
  have nq3 := nsrc a3.j' e3 rp3 gd3
  refine GvT.fin (S := SS src) (gt_test (gv_op (g3.mono a3) (gv_val (i := 1) (v := .int 6) rfl) (rg_I0 (g := fun i j => .bl (decide (i ≤ j)))))) a3.j' fun H4 a4 => ?_
  have e4 := a4.k _ _ nq3 e3
  have rp4 := rp3.mono a4.tups
  refine ite2 (fun c => ?_) (fun c => iteF (fin q3 zs3 hs3 H4 (a3.trans a4) e4 rp4 gd3 nq3))
  have c := of_decide_eq_true c
  refine ge_take hasSS (top := 2) (ga_two (gv_val rfl) gv_int) (by decide) (by decide) H4 a4.fin _ ?_
  rintro v H5 a5 ⟨r, hr, rfl⟩
  have e5 := a5.k _ _ nq3 e4
  have rp5 := rp4.mono a5.tups
  refine ⟨by rfl, _, rfl, ite2 (fun _ => ?_) fun _ => fin q3 zs3 hs3 H5 (a3.trans (a4.trans a5)) e5 rp5 gd3 nq3⟩
  refine ge_mixed hasSS (gv_val rfl) (gv_val rfl) (fun H6 a6 => at' H6 (a3.trans (a4.trans (a5.trans a6)))) np (by omega) H5 a5.fin _ ?_
  rintro v H6 a6 ⟨q6, ys, rfl, hq6, e6, pm⟩
  have ly := pm.length_eq
  obtain ⟨hs, g1, g2⟩ := good (a3.trans (a4.trans (a5.trans a6))) pm (.refl _) (by omega) (by omega)
  exact fin q6 ys hs H6 (a3.trans (a4.trans (a5.trans a6))) e6 g1 g2 (nsrc a6.j' e6 g1 g2)

theorem sc_law_pool : FnScope ["_law_script", "_law_k", "_law_cell", "_law_big", "_law_mixed_here"] ["_law_script", "_law_k"] (defScope s_law_pool) := ⟨rfl, rfl, rfl, by decide +kernel, rfl, by decide +kernel, by decide +kernel⟩
theorem ok_law_pool (T : Tx mg) (F : DfD K mg "_law_pool" s_law_pool)  : Gd P w K mg base "_law_pool" 1 (sp_law_pool K) := gd_of (N := ["_law_script", "_law_k", "_law_cell", "_law_big", "_law_mixed_here"]) F sc_law_pool (fun _ _ _ _ _ _ us hl => match us, hl with | [_, _], _ => rfl) (fun vs H Q E h => by
    obtain ⟨a, ns, rfl, hs, l63, k⟩ := h
    rfl) fun f cdv A outer s H vs Q E hr hsp => by
  obtain ⟨a, ns, rfl, hs, l63, k⟩ := hsp
  refine ⟨_, (pss_cons (psn 2 sc_law_pool.nd pe_int)
    (pss_cons (ps_if (pt_cmpR op_lt (pv 1) (pe_cb call_len_seq T.len boot_len (pa_cons (pv 0) pa_nil)) (nomark _)) (pss_one (psn 2 sc_law_pool.nd (pe_ix ix_list (pv 0) (pv 1) (fun _ _ => rfl)))) (pss_one (ps_if (pt_cmpR (op_neD hr.units) (pv 0) (pe_lst pa_nil) (nomark _)) (pss_one (psn 2 sc_law_pool.nd (pe_ix ix_list (pv 0) pe_int (fun _ _ => rfl)))) pss_nil)))
    (pss_cons (psn 3 sc_law_pool.nd (pe_cb (call_max2 rfl) T.max boot_max (pa_cons (pe_ct call_int1 T.int boot_int (pa_cons (pv 2) pa_nil)) (pa_cons (pe_ct call_int1 T.int boot_int (pa_cons (pe_op op_sub (pe_un un_neg pe_int) (pv 2)) pa_nil)) pa_nil))))
    (pss_cons (psn 4 sc_law_pool.nd (pe_op op_modN (pe_ct call_int1 T.int boot_int (pa_cons (pe_op op_mul (pe_op op_add (pe_op op_add (pe_op op_add (pe_op op_modN (pe_ct call_int1 T.int boot_int (pa_cons (pv 3) pa_nil)) pe_int) (pe_op op_mul (pe_op op_mul pe_int (pv 1)) (pv 1))) (pe_op op_mul pe_int (pv 1))) pe_int) pe_int) pa_nil)) pe_int))
    (pss_one (ps_ret (pe_lst (pa_cons (pe_op op_mul (pv 3) (pe_ct call_int1 T.int boot_int (pa_cons (pe_and (pe_cmpR op_ge (pv 3) (pe_op op_pow pe_int pe_int) (nomark _)) (pe_one (pe_cmpR op_lt (pv 1) (pe_cb call_len_seq T.len boot_len (pa_cons (pv 0) pa_nil)) (nomark _)))) pa_nil))) (pa_cons (pv 4) pa_nil))))))))), ?_⟩
  have at' : ∀ H1, S0.T H H1 → SqL K H1 a (ns.map V.int) := fun H1 t => Same.seq (S0.same t) hs
  have gl : ∀ {σ : L2.St} {H1 : Hp}, σ[0]? = some (some (.ref a)) → S0.T H H1 → Gv S0 (tCB (rLenSq K) (tCons (tVar 0) tNil)) σ H1 (.val (.int (ns.length : Int))) := fun e t => (gv_lenQ (gv_val e) fun H2 t2 => at' H2 (t.trans t2)).int_cast (by rw [List.length_map])
  refine gx_set (S := S0) (gv_int (i := 0)).ge H S0.r _ ?_
  rintro _ H1 a1 ⟨v, hv, rfl⟩
  have hv : v = .int 0 := hv
  subst hv
  -- the cell
  have cell : Gx S0 (tIfS (tTest (tOp (rI0 fun i j => .bl (decide (i < j))) (tVar 1) (tCB (rLenSq K) (tCons (tVar 0) tNil)))) (tAsg (tOp (rIxL K) (tVar 0) (tVar 1)) (gName 2)) (tIfS (tTest (tOp (rNeD K) (tVar 0) (tLst tNil))) (tAsg (tOp (rIxL K) (tVar 0) (tC (.int 0))) (gName 2)) tNext)) [some (.ref a), some (.int 0), some (.int 0), none, none] H1 fun σ' _ => ∃ c : Int, σ' = [some (.ref a), some (.int 0), some (.int c), none, none] := by
    refine gx_if (b := decide ((0 : Int) < (ns.length : Int))) (gt_test (gv_op (gv_val rfl) (gl rfl a1) rg_I0)) (fun c => ?_) fun c => ?_
    · have c := of_decide_eq_true c
      have hx : (ns.map V.int)[0]? = some (.int (ns[0]'(by omega))) := by rw [List.getElem?_map, List.getElem?_eq_getElem (by omega)]; rfl
      refine Gx.imp (gx_set (gv_ixQ (i := 0) (o := .val _) (gv_val rfl) (gv_val rfl) rfl (fun H2 t => at' H2 (a1.trans t)) hx rfl).ge) fun σ' H2 t2 ⟨v, hv, e⟩ => ?_
      have hv : v = _ := hv
      subst hv
      exact ⟨_, e⟩
    · have c := of_decide_eq_false c
      have e0 : ns = [] := List.eq_nil_of_length_eq_zero (by omega)
      refine gx_if (b := false) (gt_test fun H2 t2 Q q => ?_) (fun e => nomatch e) fun _ => Gx.imp gx_next fun σ' H2 t2 e => ⟨0, e⟩
      refine ⟨.ref a, rfl, Nat.zero_le _, fun p hp => ?_⟩
      have t3 : S0.T H2 (upd H2 p (.lst [])) := .new trivial hp
      have h3 := at' _ (a1.trans (t2.trans t3))
      rw [e0] at h3
      refine ⟨.list [], .list [], .lst h3 .nil, .lst (SqL.of upd_same) .nil, by decide, by decide, q _ _ t3 ?_⟩
      rfl
  refine cell H1 a1.fin _ ?_
  rintro _ H2 a2 ⟨c, rfl⟩
  have a2 := a1.trans a2
  dsimp only
  have mx : ∀ c : Int, ∃ b : Int, (if -1 - c > c then -1 - c else c) = b ∧ 0 ≤ b := fun c => ⟨_, rfl, by split <;> omega⟩
  obtain ⟨b, eb, hb⟩ := mx c
  refine gx_set (S := S0) (R := fun v _ => v = .int b) (Gv.ge (o := .val (.int b)) (gv_cb (os := [.val (.int c), .val (.int (-1 - c))]) (ga_two (gv_int1 (gv_val rfl)) (gv_int1 (gv_op (gv_neg (i := 1) gv_int) (gv_val rfl) rg_I0))) fun H3 t3 vs hvs Q q => ?_)) H2 S0.r _ ?_
  · obtain ⟨u, w, rfl, hu, hw⟩ := isL2 hvs
    cases hu
    cases hw
    exact ⟨c, -1 - c, rfl, by rw [eb]; exact q _ H3 t3.fin rfl⟩
  rintro _ H3 a3 ⟨v, rfl, rfl⟩
  have a3 := a2.trans a3
  dsimp only
  have mxd : 0 ≤ (((((b.fmod 2147483629) + 7919 * 0 * 0) + 31 * 0) + 17) * 48271).fmod 2147483647 ∧ (((((b.fmod 2147483629) + 7919 * 0 * 0) + 31 * 0) + 17) * 48271).fmod 2147483647 < 2147483647 := ⟨Int.fmod_nonneg_of_pos _ (by decide), Int.fmod_lt_of_pos _ (by decide)⟩
  have sm : CMul (7919 : Int) 0 := .inr (by decide)
  refine gx_set (S := S0) (R := fun v _ => v = .int ((((((b.fmod 2147483629) + 7919 * 0 * 0) + 31 * 0) + 17) * 48271).fmod 2147483647)) (Gv.ge (o := .val (.int _)) (gv_op (gv_int1 (gv_op (gv_op (gv_op (gv_op (gv_op (gv_int1 (gv_val rfl)) gv_int (rg_I (by decide))) (gv_op (gv_op gv_int (gv_val rfl) (rg_I (.inr (by decide)))) (gv_val rfl) (rg_I (.inr (by decide)))) rg_I0) (gv_op gv_int (gv_val rfl) (rg_I (.inr (by decide)))) rg_I0) gv_int rg_I0) gv_int (rg_I (.inr (by decide))))) gv_int (rg_I (by decide)))) H3 S0.r _ ?_
  rintro _ H4 a4 ⟨v, rfl, rfl⟩
  have a4 := a3.trans a4
  dsimp only
  generalize (((((b.fmod 2147483629) + 7919 * 0 * 0) + 31 * 0) + 17) * 48271).fmod 2147483647 = m at *
  have fz : ∀ c : Bool, ∃ r : Int, b * (if c = true then 1 else 0) = r ∧ 0 ≤ r := fun c => ⟨_, rfl, by cases c <;> simp <;> omega⟩
  obtain ⟨r, er, hr0⟩ := fz (decide ((10 : Int) ^ (18 : Int).toNat ≤ b) && decide ((0 : Int) < (ns.length : Int)))
  refine grl_ret (S := S0) (gl_lst (os := [.val (.int r), .val (.int m)]) (ga_two ((gv_op (gv_val rfl) (gv_intB (gv_andV (gv_op (gv_val rfl) (gv_op gv_int gv_int (rg_I ⟨by decide, by decide, by decide⟩)) rg_I0) fun _ => gv_op (gv_val rfl) (gl rfl a4) rg_I0)) (rg_I (.inr ?_))).cast (congrArg (fun x => Ob.val (.int x)) er)) (gv_val rfl)) (by show 2 ≤ 100000; decide)) H4 S0.r _ fun p xs H5 hp a5 he hx => ?_
  · obtain ⟨x, y, rfl, hx1, hx2⟩ := isL2 hx
    cases hx1
    cases hx2
    exact k H5 p (S0.same (a4.trans a5)) (a4.free hp) ⟨r, m, he, hr0, mxd.1, mxd.2⟩
  · split <;> decide

end
end Ed

set_option maxHeartbeats 1000000
/-! EdLam: a lambda with one parameter and captured names, handed to a def that calls it. -/
namespace Ed
open PySem PySem.Spec PyProof.Rows L2 LamX NdefX
section
variable {P : Program} {w : World} {K : PySem.W.Frag} {mg : Str → Option Value} {base : Heap}
/-- the captured cells stay -/
theorem cells_stay {cl : List (Str × Addr)} {fr : List Str} {ws : List (Option V)} {fs : List Addr} {h h1 : Heap} {H H1 : Hp} (C : CellsAt cl fr ws h H) (un : Un fs [] H H1 h h1) : CellsAt cl fr ws h1 H1 := by
  have kp : ∀ y c, cl.lookup y = some c → ∀ v, h.IsCell c v → h1.IsCell c v := fun y c e v ⟨o, ho, hd⟩ => by
    obtain ⟨sl, q⟩ := un.any ho (C.all y c e).1 (by simp)
    exact ⟨_, q, hd⟩
  refine ⟨C.len, fun y c e => ?_, C.inj, fun i y e => ?_⟩
  · obtain ⟨n, v, z⟩ := C.all y c e
    refine ⟨?_, v, kp y c e v z⟩
    obtain ⟨o, ho, _⟩ := z
    exact un.free c o ho n (by simp)
  · obtain ⟨c, hc, hv⟩ := C.has i y e
    refine ⟨c, hc, fun v ev => ?_⟩
    obtain ⟨u, r, z⟩ := hv v ev
    exact ⟨u, r, kp y c hc _ z⟩
/-- the lambda is called -/
theorem lam_run {N ps fr : List Str} {F : NF} {f : Addr} {k : Nat} {body : Expr} {tb : TE} {A : Around} {outer : List Env} {s : Shared} {H : Hp} {pm ctv : Value} {us : List Value} {vs : List V} {ws : List (Option V)} {Q : VK}
    (hf : s.heap.get? f = some (PySem.W.kla_obj F.name F.qual F.params body F.scope F.cl pm F.c ctv)) (hc : H F.c = some (CodeO F.c F.qual)) (S : NScope N ps fr F.scope)
    (hb : bindArgs (PySem.W.kla_fn F.name F.qual F.params body F.scope F.cl pm (.ref F.c) ctv) ⟨us, []⟩ = pure (ps.zip us)) (hr : Room (k + 1) A) (e0 : Env0 P w K mg base A outer s H) (C : CellsAt F.cl fr ws s.heap H) (r : Vals vs us) (hl : vs.length = ps.length)
    (hbody : Room k (A.deeper (envF F f s.heap.objs.size)) → PE (ncx CX0 P w K mg base N F f A outer s H E0) body tb) (hq : tb (startF N vs ws) H Q) :
    codeAny (model P w) A (.call (.ref f) ⟨us, []⟩) (CR CX0 outer P w H s Q E0) s := by
  have lim : s.heap.NoLimit := e0.mod.nolimit.keeps fun b o e => (e0.bs b o e).1
  obtain ⟨⟨oc, cvs, t, hoc, hdc, hvc⟩, _, _⟩ := e0.hok F.c _ hc
  refine PySem.W.kla_callFunE hr.depth hf rfl S.co S.gen rfl ⟨F.c, oc, cvs, t, rfl, hoc, hdc, hvc⟩ ?_
  rw [hb]
  refine wpAny_pure (wpAny_newFunctionEnv S.nocell (fun ⟨n, _⟩ hy => S.par n (List.of_mem_zip hy).1) (fun h₁ hns hsb => ⟨lim.fresh _ hsb, ?_⟩) S.kind)
  show codeAny _ _ (.expr body (envF F f s.heap.objs.size)) _ _
  have kp : ∀ b o, s.heap.get? b = some o → h₁.get? b = some o := fun b o e => hsb.extBut b o (Nat.ne_of_lt (Heap.lt_size e)) (Heap.get?_push_of_some _ e)
  have J : Inv (ncx CX0 P w K mg base N F f A outer s H E0) [] (startF N vs ws) H { s with heap := h₁, toks := s.toks + (ps.zip us).length } := inv_startN S hr.hd e0 hl r C hns kp
  refine PySem.W.kla_codeExpr (wpAny_mono ((hbody (hr.deeper _)).run [] _ _ H Q J hq) (fun v s' hq => ?_) fun e s' hq => hq)
  obtain ⟨w', H', J', rv, q⟩ := hq
  exact ⟨w', H', J'.os, J'.bare, J'.base, J'.hok, rv, q⟩
end
section
variable {X : Cx} {pins : List (Addr × Obj)} {σ : L2.St} {H : Hp} {s : Shared}
/-- a(e), in the def that got the lambda: a its parameter -/
theorem pe_act1 {Ng N fr : List Str} {pn qg a : Str} {sg : Scope} {g f : Addr} {cdg pm ctv : Value} {F : NF} {body e : Expr} {tb : TE} {t : TA} {ws : List (Option V)} {k i : Nat} {p1 p2 : Pos}
    (hf : s.heap.get? f = some (PySem.W.kla_obj F.name F.qual F.params body F.scope F.cl pm F.c ctv)) (hfn : H f = none) (hfr : f ∉ frs X.stack) (C : CellsAt F.cl fr ws s.heap H) (S : NScope N [pn] fr F.scope)
    (hb : ∀ u : Value, bindArgs (PySem.W.kla_fn F.name F.qual F.params body F.scope F.cl pm (.ref F.c) ctv) ⟨[u], []⟩ = pure [(pn, u)]) (hr : Room (k + 1) (X.A.deeper (envOfC qg sg s.heap.objs.size g cdg)))
    (hbody : ∀ (A : Around) (outer : List Env) (s : Shared) (H : Hp), Room k (A.deeper (envF F f s.heap.objs.size)) → PE (ncx CX0 X.prog X.w X.K X.mg X.base N F f A outer s H E0) body tb)
    (hN : Ng[i]? = some a) (hv : Vis sg a) (ha : PA (cxOf CX0 X.prog X.w X.K X.mg X.base Ng qg sg g cdg X.A X.stack s H E0).nox [e] t)
    (he : starEach [e] (cxOf CX0 X.prog X.w X.K X.mg X.base Ng qg sg g cdg X.A X.stack s H E0).nox.env = (false, eval e (cxOf CX0 X.prog X.w X.K X.mg X.base Ng qg sg g cdg X.A X.stack s H E0).nox.env) :: starEach [] (cxOf CX0 X.prog X.w X.K X.mg X.base Ng qg sg g cdg X.A X.stack s H E0).nox.env)
    (hd : (a == ("__debug__" : Str)) = false := by decide) (hcd : (a == ("__classdict__" : Str)) = false := by decide) :
    PE (cxOf CX0 X.prog X.w X.K X.mg X.base Ng qg sg g cdg X.A X.stack s H E0).nox (.Call (.Name a p1) [e] [] p2)
      (fun σZ HZ Q => σZ[i]? = some (some (.ref f)) ∧ t σZ HZ fun vs H1 => H1 F.c = some (CodeO F.c F.qual) ∧ ∃ v, vs = [v] ∧ tb (startF N [v] ws) H1 Q) := by
  refine ⟨fun pinsZ sZ σZ HZ Q IZ h => ?_⟩
  obtain ⟨hs, ht⟩ := h
  refine wpAny_Call_Name_kw (thn ((pe_var (pos := p1) (i := i) hN hv hd hcd).run pinsZ sZ σZ HZ (fun v H1 => v = .ref f ∧ H1 = HZ) IZ ⟨.ref f, hs, rfl, rfl⟩) fun u s1 ⟨v, H1, I1, r1, q1⟩ => ?_)
  obtain ⟨ev, eH⟩ := q1
  subst ev
  rw [eH] at I1
  obtain rfl : u = Value.ref f := r1
  have at_ : ∀ {pins σ H1 s1}, Inv (cxOf CX0 X.prog X.w X.K X.mg X.base Ng qg sg g cdg X.A X.stack s H E0).nox pins σ H1 s1 → s1.heap.get? f = some (PySem.W.kla_obj F.name F.qual F.params body F.scope F.cl pm F.c ctv) := fun I1 => I1.base.keep f _ hf hfn hfr (fun z => nomatch (show f ∈ ([] : List Addr) from z))
  refine PySem.W.callWith_F (first := []) ⟨_, _, _, _, at_ I1⟩ (thn (ha.run p2 pinsZ s1 σZ HZ _ I1 ht) fun us s2 ⟨vs, H2, I2, r2, hc, v, ev, q2⟩ => ⟨⟨_, _, _, _, at_ I2⟩, ?_⟩) he rfl
  subst ev
  obtain ⟨u, rfl, r3⟩ := vals1 r2
  have un : Un (frs X.stack) [] H H2 s.heap s2.heap := I2.base
  have rc := lam_run (P := X.prog) (w := X.w) (K := X.K) (mg := X.mg) (base := X.base) (A := X.A.deeper (envOfC qg sg s.heap.objs.size g cdg)) (outer := envOfC qg sg s.heap.objs.size g cdg :: X.stack) (us := [u]) (vs := [v]) (Q := Q) (at_ I2) hc S (hb u) hr I2.env0 (cells_stay C un) (.cons r3 .nil) rfl (fun hr2 => hbody _ _ _ _ hr2) q2
  show wpAny _ _ (call (.ref f) [u]) _ _ _
  refine wpAny_call (codeAny_mono rc fun r s' hq => ?_)
  cases r with
  | error e => exact hq
  | ok fl =>
    cases fl with
    | ret u => exact I2.after hq
    | next => exact False.elim hq
    | brk => exact False.elim hq
    | cont => exact False.elim hq
/-- what the call of the lambda reads, in the def that got it: i the parameter's place, st the lambda's names as they stand at a value -/
def tAct (i : Nat) (f c' : Addr) (q : Str) (tb : TE) (st : V → L2.St) (t : TA) : TE := fun σZ HZ Q => σZ[i]? = some (some (.ref f)) ∧ t σZ HZ fun vs H1 => H1 c' = some (CodeO c' q) ∧ ∃ v, vs = [v] ∧ tb (st v) H1 Q
/-- the table at P has one code object more, or all is as it was -/
def Grow (P : Addr) (q : Str) (H H1 : Hp) : Prop := H1 = H ∨ ∃ ps more c, H P = some (.tbl ps) ∧ H c = none ∧ H1 = upd (upd H P (.tbl (ps ++ more))) c (CodeO c q)
/-- the lambda's making; the table at P tells of this lambda's name alone -/
theorem make_lam {c P : Addr} {params : Arguments} {body : Expr} {scope : Scope} {lp : Pos} {E Q : Value → Shared → Prop} (J : Inv X pins σ H s) (B : TabB X.base X.mg c P) (ec : X.env.code = .ref c) (tab : TabS H P (X.env.qual ++ "<lambda>"))
    (nodef : defaultsOf params X.env = ([], [])) (free : ∀ y ∈ scope.names, y.2 = .free → ∃ a, X.env.cells.lookup y.1 = some a)
    (go : ∀ (f d : Addr) (m t : Value) (G : Hp) (z : Shared), Inv X pins σ G z → Grow P (X.env.qual ++ "<lambda>") H G → TabS G P (X.env.qual ++ "<lambda>") → G d = some (CodeO d (X.env.qual ++ "<lambda>")) → G f = none → f ∉ frs X.stack →
      z.heap.get? f = some (PySem.W.kla_obj "<lambda>" (X.env.qual ++ "<lambda>") params body scope (cloFrom X.env.cells scope.names []) m d t) → Q (.ref f) z) :
    wpAny (model X.prog X.w) X.A (eval (.Lambda params body scope lp) X.env) Q E s := by
  obtain ⟨ps, tP, tri, each⟩ := tab
  have raw : s.heap.get? P = some { cls := .none, data := .fields ps } := J.hok P _ tP
  have bl := B.bm.keeps J.bk
  have nsg := J.mod.glob.keeps J.bk
  have notFrame : ∀ f, s.heap.objs.size ≤ f → f ∉ frs X.stack := by
    intro f le m
    rcases List.mem_cons.mp (J.stkSub _ m) with q | q
    · have := J.lt
      rw [← q] at this
      exact absurd this (Nat.not_lt.mpr le)
    · exact J.nofs le q
  refine PySem.W.kla_eval nodef ?_
  rcases hq : codeAmong lp ps.toList with _ | found
  · refine PySem.W.kla_makeFunction (c := c) (P := P) (mg := X.mg) (ps := ps) (closure_ok free) J.ok.glob nsg ec (B.code.keeps J.bk) raw tri hq B.gP bl fun d t h' n old above below ⟨d2, oc, fl, tk, e2, o1, o2, o3⟩ grown => ?_
    cases e2
    have hd : H d = none := J.hok.fresh above
    have big : s.heap.objs.size ≤ h'.objs.size := Nat.le_trans above (Nat.le_of_lt below)
    generalize hfo : PySem.W.kla_obj "<lambda>" (X.env.qual ++ "<lambda>") params body scope (cloFrom X.env.cells scope.names []) ((X.mg "__name__").getD .none) d t = fo
    have J2 := inv_table (t' := n) (more := #[rawInt lp.line, rawInt lp.col, .ref d]) (h' := h'.push fo) J tP (fun b o hb e => Heap.get?_push_of_some _ (old b o hb e)) (Heap.get?_push_of_some _ grown) above ⟨oc, fl, tk, Heap.get?_push_of_some _ o1, o2, o3⟩
    have nPd : P ≠ d := ne_of_none tP hd
    have keepC : ∀ a, H a = some (CodeO a (X.env.qual ++ "<lambda>")) → upd (upd H P (.tbl (ps ++ #[rawInt lp.line, rawInt lp.col, .ref d]))) d (CodeO d (X.env.qual ++ "<lambda>")) a = some (CodeO a (X.env.qual ++ "<lambda>")) := fun a e => by
      rw [upd_ne (ne_of_none e hd), upd_ne fun q => codeO_ne ps (Option.some.inj (e.symm.trans (by rw [q]; exact tP)))]
      exact e
    refine go h'.objs.size d _ t _ _ J2 (.inr ⟨ps, _, d, tP, hd, rfl⟩) ⟨_, by rw [upd_ne nPd, upd_same], ?_, fun p' cv hc => ?_⟩ upd_same ?_ (notFrame _ big) (by rw [← hfo]; exact Heap.get?_push_size _ rfl)
    · have snoc := PySem.TriplesOk_snoc lp.line lp.col (.ref d) ps.toList tri
      simpa [rawInt] using snoc
    · have hc : codeAmong p' (ps.toList ++ [rawInt lp.line, rawInt lp.col, .ref d]) = some cv := by simpa using hc
      rcases among_app _ tri hc with z | z
      · obtain ⟨a, e1, e2⟩ := each p' cv z
        exact ⟨a, e1, keepC a e2⟩
      · exact ⟨d, z, upd_same⟩
    · have m1 : h'.objs.size ≠ d := Nat.ne_of_gt below
      have m2 : h'.objs.size ≠ P := Nat.ne_of_gt (Nat.lt_of_lt_of_le (Heap.lt_size raw) big)
      rw [upd_ne m1, upd_ne m2]
      exact J.hok.fresh big
  · obtain ⟨d, rfl, hd⟩ := each lp found hq
    refine PySem.W.kla_makeFunctionHit (c := c) (P := P) (mg := X.mg) (ps := ps) (closure_ok free) J.ok.glob nsg ec (B.code.keeps J.bk) raw tri hq bl fun t h' n old big => ?_
    exact go h'.objs.size d _ t H _ (J.kept fun b o e => Heap.get?_push_of_some _ (old b o e)) (.inl rfl) ⟨ps, tP, tri, each⟩ hd (J.hok.fresh big) (notFrame _ big) (Heap.get?_push_size _ rfl)
/-- x(e1, lambda pn: body): x's body is bg; WE: what it asks -/
def tLam2 (P : Addr) (q : Str) (WE : L2.St → V → Addr → Hp → VK → Prop) (te : TE) : TE := fun σ H Q => te σ H fun v1 H0 => TabS H0 P q ∧ ∀ H1 c', Grow P q H0 H1 → TabS H1 P q → H1 c' = some (CodeO c' q) → WE σ v1 c' H1 Q
theorem pe_lam2 {WE : L2.St → V → Addr → Hp → VK → Prop} {x a b pn : Str} {g c P : Addr} {k : Nat} {pg : Arguments} {bg : List Stmt} {sg : Scope} {fdg : FuncData} {Ng N fr : List Str} {js : List Nat}
    {params : Arguments} {body e1 : Expr} {scope : Scope} {te tb : TE} {p lpos pos : Pos} (F : FunD X.K x x pg bg sg [] [] g fdg) (hm : X.mg x = some (.ref g)) (hg : Gl X x) (hb : L2.Binds X.K fdg [b, a] []) (Sg : FnScope Ng [b, a] sg) (hNa : Ng[1]? = some a) (hva : Vis sg a)
    (h1 : PE X e1 te) (he1 : starEach [e1, .Lambda params body scope lpos] X.env = (false, eval e1 X.env) :: starEach [.Lambda params body scope lpos] X.env) (TB : TabB X.base X.mg c P) (hcode : X.env.code = .ref c) (hr : Room (k + 2) X.A)
    (hdef : defaultsOf params X.env = ([], [])) (hnd : ndefB X.env.scope scope fr = true) (hjs : js.map (fun j => X.N[j]?) = fr.map some) (S : NScope N [pn] fr scope)
    (hbind : ∀ (q : Str) (cl : List (Str × Addr)) (pm cv ctv u : Value), bindArgs (PySem.W.kla_fn "<lambda>" q params body scope cl pm cv ctv) ⟨[u], []⟩ = pure [(pn, u)])
    (hbody : ∀ (A : Around) (outer : List Env) (s : Shared) (H : Hp) (F : NF) (f : Addr), F.scope = scope → Room k (A.deeper (envF F f s.heap.objs.size)) → PE (ncx CX0 X.prog X.w X.K X.mg X.base N F f A outer s H E0) body tb)
    (hG : ∀ (cdg : Value) (f c' : Addr) (s : Shared) (H : Hp) (v1 : V) (Q : VK) (σ : L2.St), Room (k + 1) (X.A.deeper (envOfC x sg s.heap.objs.size g cdg)) →
      (∀ {e : Expr} {t : TA} {p1 p2 : Pos}, PA (cxOf CX0 X.prog X.w X.K X.mg X.base Ng x sg g cdg X.A X.stack s H E0).nox [e] t → starEach [e] (cxOf CX0 X.prog X.w X.K X.mg X.base Ng x sg g cdg X.A X.stack s H E0).nox.env = (false, eval e (cxOf CX0 X.prog X.w X.K X.mg X.base Ng x sg g cdg X.A X.stack s H E0).nox.env) :: starEach [] (cxOf CX0 X.prog X.w X.K X.mg X.base Ng x sg g cdg X.A X.stack s H E0).nox.env →
        PE (cxOf CX0 X.prog X.w X.K X.mg X.base Ng x sg g cdg X.A X.stack s H E0).nox (.Call (.Name a p1) [e] [] p2) (tAct 1 f c' (X.env.qual ++ "<lambda>") tb (fun v => startF N [v] (js.map (slotAt σ))) t)) →
      WE σ v1 c' H Q → ∃ t, PSs (cxOf CX0 X.prog X.w X.K X.mg X.base Ng x sg g cdg X.A X.stack s H E0).nox bg t ∧ t { nx := fun _ H' => Q .non H', rt := Q } (L2.start Ng [v1, .ref f]) H)
    (hdb : (x == ("__debug__" : Str)) = false := by decide) (hd : (a == ("__debug__" : Str)) = false := by decide) (hcd : (a == ("__classdict__" : Str)) = false := by decide) :
    PE X (.Call (.Name x p) [e1, .Lambda params body scope lpos] [] pos) (tLam2 P (X.env.qual ++ "<lambda>") WE te) := by
  refine ⟨fun pins s σ H Q I h => ?_⟩
  refine wpAny_Call_Name_kw (ld_glob I hg hm ?_ hdb)
  refine PySem.W.callWith_K (h₀ := X.base) I.ok.mod.kin F.kp ?_ he1 (by rfl)
  rw [he1]
  show wpAny _ _ (spliced ((false, eval e1 X.env) :: backTo pos (starEach [.Lambda params body scope lpos] X.env))) _ _ s
  refine Calls.spliced_cons (thn (h1.run pins s σ H _ I h) fun u1 s1 ⟨v1, H0, I0, r1, hT, h⟩ => ?_)
  show wpAny _ _ (spliced ((false, eval (.Lambda params body scope lpos) X.env) :: backTo pos (starEach [] X.env))) _ _ s1
  have hfree : ∀ y ∈ scope.names, y.2 = .free → ∃ c, X.env.cells.lookup y.1 = some c := fun y hy e => (ndef_free hnd y hy e).elim (fun z => I0.ok.has _ (.inl z)) fun z => I0.ok.has _ (.inr z)
  refine Calls.spliced_cons (make_lam I0 TB hcode hT hdef hfree fun f c' pm' ctv H1 s' I1 eN T1 hco hfn hfr hf => ?_)
  refine Calls.spliced_nil ⟨I1.kIn, ?_⟩
  have cp : Caps X (cloFrom X.env.cells scope.names []) fr js := Caps.made I1.ok (ndef_free hnd) (ndef_fr hnd) hjs
  have C := cells_of I1 cp
  have rc : codeAny (model X.prog X.w) X.A (.call (.ref g) ⟨[u1, .ref f], []⟩) (CR CX0 X.stack X.prog X.w H1 s' Q E0) s' := by
    obtain ⟨oc, od, dV, kV, doc, pm, an, cdv, ct, osl, rfl, lk, hcd', _, _⟩ := F.ex
    refine run_ofS (N := Ng) (ps := [b, a]) (us := [u1, .ref f]) (vs := [v1, .ref f]) lk hcd' Sg hr I1.env0 (hb s' [u1, .ref f] I1.kIn rfl) (.cons r1 (.cons rfl .nil)) rfl fun hr' => ?_
    obtain ⟨t', ht', hq'⟩ := hG cdv f c' s' H1 v1 Q σ hr' (fun {e t p1 p2} ha he => pe_act1 (F := ⟨"<lambda>", X.env.qual ++ "<lambda>", params, [], scope, cloFrom X.env.cells scope.names [], c'⟩) hf hfn hfr C S (fun u => hbind _ _ _ _ _ u) hr' (fun A outer s H hr2 => hbody A outer s H _ f rfl hr2) hNa hva ha he hd hcd) (h H1 c' eN T1 hco)
    exact ⟨t', ht'.nox, hq'⟩
  refine wpAny_call (codeAny_mono rc fun r s2 hq => ?_)
  cases r with
  | error e => exact (show False from hq).elim
  | ok fl =>
    cases fl with
    | ret u => exact I1.after hq
    | next => exact False.elim hq
    | brk => exact False.elim hq
    | cont => exact False.elim hq
end
end Ed

set_option maxHeartbeats 1000000
/-! EdSt: the states of replicas and of the law's own dicts in the heap. -/
namespace Ed
open PySem PySem.Spec PyProof.Rows L2
/-! ### lists of pairs -/
section
variable {α β κ : Type} [DecidableEq α] [DecidableEq κ]
def lk (l : List (α × β)) (c : α) : Option β := (l.find? fun e => decide (e.1 = c)).map (·.2)
def pt (l : List (α × β)) (c : α) (b : β) : List (α × β) := if (l.any fun e => decide (e.1 = c)) = true then l.map (fun e => if e.1 = c then (e.1, b) else e) else l ++ [(c, b)]
theorem lk_nil {c : α} : lk ([] : List (α × β)) c = none := rfl
theorem lk_pos {e : α × β} {l : List (α × β)} {c : α} (h : e.1 = c) : lk (e :: l) c = some e.2 := by simp [lk, List.find?_cons, h]
theorem lk_neg {e : α × β} {l : List (α × β)} {c : α} (h : ¬ e.1 = c) : lk (e :: l) c = lk l c := by simp [lk, List.find?_cons, h]
theorem lk_mem {l : List (α × β)} {c : α} {b : β} (h : lk l c = some b) : (c, b) ∈ l := by
  induction l with
  | nil => cases h
  | cons e l ih =>
    by_cases q : e.1 = c
    · rw [lk_pos q] at h
      cases h
      exact List.mem_cons.mpr (.inl (by rw [← q]))
    · rw [lk_neg q] at h
      exact List.mem_cons_of_mem _ (ih h)
theorem lk_some {l : List (α × β)} {c : α} (h : c ∈ l.map (·.1)) : ∃ b, lk l c = some b := by
  induction l with
  | nil => cases h
  | cons e l ih =>
    by_cases q : e.1 = c
    · exact ⟨_, lk_pos q⟩
    · rw [lk_neg q]
      rw [List.map_cons] at h
      rcases List.mem_cons.mp h with h | h
      · exact absurd h.symm q
      · exact ih h
theorem lk_isSome {l : List (α × β)} {c : α} : (lk l c).isSome = true ↔ c ∈ l.map (·.1) := by
  constructor
  · intro h
    obtain ⟨b, e⟩ := Option.isSome_iff_exists.mp h
    exact List.mem_map.mpr ⟨_, lk_mem e, rfl⟩
  · intro h
    obtain ⟨b, e⟩ := lk_some h
    rw [e]
    rfl
theorem lk_of_mem {l : List (α × β)} {c : α} {b : β} (nd : (l.map (·.1)).Nodup) (h : (c, b) ∈ l) : lk l c = some b := by
  induction l with
  | nil => cases h
  | cons e l ih =>
    rw [List.map_cons, List.nodup_cons] at nd
    rcases List.mem_cons.mp h with h | h
    · subst h
      exact lk_pos rfl
    · rw [lk_neg fun q => nd.1 (List.mem_map.mpr ⟨_, h, q.symm⟩)]
      exact ih nd.2 h
theorem lk_any {l : List (α × β)} {c : α} : (l.any fun e => decide (e.1 = c)) = (lk l c).isSome := by
  induction l with
  | nil => rfl
  | cons e l ih =>
    by_cases q : e.1 = c
    · rw [lk_pos q, List.any_cons, decide_eq_true q]
      rfl
    · rw [lk_neg q, List.any_cons, decide_eq_false q, Bool.false_or, ih]
theorem pt_new {l : List (α × β)} {c : α} {b : β} (h : lk l c = none) : pt l c b = l ++ [(c, b)] := by
  unfold pt
  rw [lk_any, h]
  rfl
theorem pt_old {l : List (α × β)} {c : α} {b x : β} (h : lk l c = some x) : pt l c b = l.map fun e => if e.1 = c then (e.1, b) else e := by
  unfold pt
  rw [lk_any, h]
  rfl
/-- an entry that stands is written again -/
theorem pt_same {l : List (α × β)} {c : α} {b : β} (nd : (l.map (·.1)).Nodup) (h : lk l c = some b) : pt l c b = l := by
  rw [pt_old h]
  conv => rhs; rw [← List.map_id l]
  refine List.map_congr_left fun e he => ?_
  by_cases q : e.1 = c
  · rw [if_pos q]
    have := lk_of_mem nd (c := e.1) (b := e.2) he
    rw [q, h] at this
    cases this
    rfl
  · rw [if_neg q]
    rfl
theorem pt_keys {l : List (α × β)} {c : α} {b : β} : (pt l c b).map (·.1) = if c ∈ l.map (·.1) then l.map (·.1) else l.map (·.1) ++ [c] := by
  by_cases h : c ∈ l.map (·.1)
  · obtain ⟨x, e⟩ := lk_some h
    rw [pt_old e, if_pos h, List.map_map]
    refine List.map_congr_left fun e _ => ?_
    show (if e.1 = c then (e.1, b) else e).1 = e.1
    split <;> rfl
  · have e : lk l c = none := by
      cases q : lk l c with
      | none => rfl
      | some x => exact absurd (lk_isSome.mp (by rw [q]; rfl)) h
    rw [pt_new e, if_neg h, List.map_append]
    rfl
theorem pt_nodup {l : List (α × β)} {c : α} {b : β} (nd : (l.map (·.1)).Nodup) : ((pt l c b).map (·.1)).Nodup := by
  rw [pt_keys]
  split
  · exact nd
  · rename_i h
    rw [List.nodup_append]
    exact ⟨nd, by simp, fun x hx y hy e => h (by rw [List.mem_singleton] at hy; rw [← hy, ← e]; exact hx)⟩
theorem pt_mem {l : List (α × β)} {c : α} {b : β} {e : α × β} (h : e ∈ pt l c b) : e ∈ l ∨ e = (c, b) := by
  unfold pt at h
  split at h
  · obtain ⟨x, hx, q⟩ := List.mem_map.mp h
    by_cases z : x.1 = c
    · rw [if_pos z] at q
      right
      rw [← q, z]
    · rw [if_neg z] at q
      exact .inl (q ▸ hx)
  · rcases List.mem_append.mp h with h | h
    · exact .inl h
    · exact .inr (List.mem_singleton.mp h)
theorem lk_pt {l : List (α × β)} {c d : α} {b : β} : lk (pt l c b) d = if d = c then some b else lk l d := by
  have app : ∀ l : List (α × β), c ∉ l.map (·.1) → lk (l ++ [(c, b)]) d = if d = c then some b else lk l d := by
    intro l
    induction l with
    | nil =>
      intro _
      by_cases q : d = c
      · rw [if_pos q]; exact lk_pos q.symm
      · rw [if_neg q]; exact (lk_neg (fun z => q z.symm)).trans rfl
    | cons e l ih =>
      intro h
      rw [List.map_cons, List.mem_cons, not_or] at h
      by_cases q : e.1 = d
      · rw [List.cons_append, lk_pos q, if_neg (fun z => h.1 (z.symm.trans q.symm)), lk_pos q]
      · rw [List.cons_append, lk_neg q, lk_neg q, ih h.2]
  have mp : ∀ l : List (α × β), lk (l.map fun e => if e.1 = c then (e.1, b) else e) d = if d = c then (lk l d).map (fun _ => b) else lk l d := by
    intro l
    induction l with
    | nil => by_cases q : d = c <;> simp [q, lk]
    | cons e l ih =>
      rw [List.map_cons]
      by_cases z : e.1 = c
      · rw [if_pos z]
        by_cases q : e.1 = d
        · rw [lk_pos (e := (e.1, b)) q, if_pos (q.symm.trans z), lk_pos q]; rfl
        · rw [lk_neg (e := (e.1, b)) q, lk_neg q, ih]
      · rw [if_neg z]
        by_cases q : e.1 = d
        · rw [lk_pos q, if_neg (fun y => z (q.trans y)), lk_pos q]
        · rw [lk_neg q, lk_neg q, ih]
  by_cases h : c ∈ l.map (·.1)
  · obtain ⟨x, e⟩ := lk_some h
    rw [pt_old e, mp]
    by_cases q : d = c
    · rw [if_pos q, if_pos q, q, e]; rfl
    · rw [if_neg q, if_neg q]
  · have e : lk l c = none := by
      cases q : lk l c with
      | none => rfl
      | some x => exact absurd (lk_isSome.mp (by rw [q]; rfl)) h
    rw [pt_new e, app l h]
/-- the dict's pairs are the list's -/
structure Asc (H : Hp) (key : α → κ) (enc : β → PyData) (kvs : List (κ × V)) (l : List (α × β)) : Prop where
  k : kvs.map (·.1) = l.map fun e => key e.1
  v : Reps H (kvs.map (·.2)) (l.map fun e => enc e.2)
variable {H H' : Hp} {key : α → κ} {enc : β → PyData} {kvs : List (κ × V)} {l : List (α × β)} {c : α} {b : β} {v : V}
theorem Asc.mono (h : Asc H key enc kvs l) (t : Tups H H') : Asc H' key enc kvs l := ⟨h.k, h.v.mono t⟩
theorem Asc.nil : Asc H key enc ([] : List (κ × V)) [] := ⟨rfl, .nil⟩
theorem Asc.length (h : Asc H key enc kvs l) : kvs.length = l.length := by
  have := congrArg List.length h.k
  simpa using this
theorem Asc.cons_inv {e : α × β} (h : Asc H key enc kvs (e :: l)) : ∃ v r, kvs = (key e.1, v) :: r ∧ Rep H v (enc e.2) ∧ Asc H key enc r l := by
  cases kvs with
  | nil => cases h.k
  | cons p r =>
    have k := h.k
    have v := h.v
    simp only [List.map_cons, List.cons.injEq] at k
    rw [List.map_cons, List.map_cons] at v
    cases v with
    | cons v1 v2 => exact ⟨p.2, r, by rw [← k.1], v1, k.2, v2⟩
theorem Asc.cons {e : α × β} (hv : Rep H v (enc e.2)) (h : Asc H key enc kvs l) : Asc H key enc ((key e.1, v) :: kvs) (e :: l) := ⟨by rw [List.map_cons, List.map_cons, h.k], .cons hv h.v⟩
theorem Asc.get (inj : ∀ e ∈ l, key e.1 = key c → e.1 = c) : ∀ {kvs : List (κ × V)}, Asc H key enc kvs l → (lk l c = none → valV kvs (key c) = none) ∧ ∀ b, lk l c = some b → ∃ v, valV kvs (key c) = some v ∧ Rep H v (enc b) := by
  induction l with
  | nil =>
    intro kvs h
    cases kvs with
    | nil => exact ⟨fun _ => rfl, fun b e => by cases e⟩
    | cons => cases h.k
  | cons e l ih =>
    intro kvs h
    obtain ⟨v, r, rfl, hv, hr⟩ := h.cons_inv
    obtain ⟨i1, i2⟩ := ih (fun e he => inj e (List.mem_cons_of_mem _ he)) hr
    by_cases q : e.1 = c
    · rw [lk_pos q, valV_pos (by rw [q])]
      exact ⟨fun e => (nomatch e), fun b e => by cases e; exact ⟨v, rfl, hv⟩⟩
    · rw [lk_neg q, valV_neg fun z => q (inj e (List.mem_cons_self ..) z)]
      exact ⟨i1, i2⟩
theorem Asc.append {kvs2 : List (κ × V)} {l2 : List (α × β)} (h : Asc H key enc kvs l) (h2 : Asc H key enc kvs2 l2) : Asc H key enc (kvs ++ kvs2) (l ++ l2) := by
  refine ⟨by rw [List.map_append, List.map_append, h.k, h2.k], ?_⟩
  rw [List.map_append, List.map_append]
  exact reps_append h.v h2.v
theorem Asc.put (inj : ∀ e ∈ l, key e.1 = key c → e.1 = c) (hv : Rep H v (enc b)) (h : Asc H key enc kvs l) : Asc H key enc (putK kvs (key c) v) (pt l c b) := by
  obtain ⟨g1, g2⟩ := Asc.get (c := c) inj h
  cases e : lk l c with
  | none =>
    rw [putK_new v (g1 e), pt_new e]
    exact h.append (.cons (e := (c, b)) hv .nil)
  | some x =>
    obtain ⟨u, hu, _⟩ := g2 x e
    have e1 : putK kvs (key c) v = kvs.map fun kv => if kv.1 = key c then (kv.1, v) else kv := by
      unfold putK
      rw [valV_any, hu]
      rfl
    rw [e1, pt_old e]
    clear e1 hu e g1 g2
    induction l generalizing kvs with
    | nil =>
      cases kvs with
      | nil => exact .nil
      | cons => cases h.k
    | cons e l ih =>
      obtain ⟨y, r, rfl, hy, hr⟩ := h.cons_inv
      have ih' := ih (fun e he => inj e (List.mem_cons_of_mem _ he)) hr
      rw [List.map_cons, List.map_cons]
      by_cases q : e.1 = c
      · rw [if_pos q, if_pos (by rw [q])]
        exact .cons (e := (e.1, b)) hv ih'
      · rw [if_neg q, if_neg fun z => q (inj e (List.mem_cons_self ..) z)]
        exact .cons hy ih'
end
end Ed

set_option maxHeartbeats 1000000
/-! EdRu: replicas, the law's own dicts: where they stand, how they are read. -/
namespace Ed
open PySem PySem.Spec PyProof.Rows L2
abbrev Am := List (List Int)
abbrev Log := List (Nat × Am)
abbrev Hds := List (Str × List Nat)
abbrev kS (x : Str) : Key := .inr x
theorem idK_tup {c : Nat} : (idK c).map kV = [V.str (hnd (c / 400)), V.int ((c % 400 : Nat) : Int)] := rfl
theorem id_at {H : Hp} {v : V} {c : Nat} (h : Rep H v (idD c)) : ∃ b, v = .ref b ∧ H b = some (.tup ((idK c).map kV)) := by
  obtain ⟨b, xs, rfl, hb, hr⟩ := Rep.inv h
  cases hr with
  | cons h1 t => cases t with
    | cons h2 t =>
      cases t
      cases h1
      cases h2
      exact ⟨b, rfl, hb⟩
theorem id_rep {H : Hp} {b : Addr} {c : Nat} (h : H b = some (.tup ((idK c).map kV))) : Rep H (.ref b) (idD c) := .tup h (.cons (.str _) (.cons (.int _) .nil))
/-- the steps' dict -/
def StD (H : Hp) (d : Addr) (log : Log) : Prop := ∃ kvs : List (List Key × V), H d = some (.dT kvs) ∧ Asc H idK amD kvs log
/-- the heads' dict -/
def HdD (H : Hp) (d : Addr) (hs : Hds) : Prop := ∃ kvs : List (Key × V), H d = some (.dK kvs) ∧ Asc H kS idsD kvs hs
theorem StD.same {H H' : Hp} {d : Addr} {log : Log} (h : StD H d log) (s : Same H H') : StD H' d log := by
  obtain ⟨kvs, h1, h2⟩ := h
  exact ⟨kvs, s _ _ h1, h2.mono (Same.tups s)⟩
theorem HdD.same {H H' : Hp} {d : Addr} {log : Hds} (h : HdD H d log) (s : Same H H') : HdD H' d log := by
  obtain ⟨kvs, h1, h2⟩ := h
  exact ⟨kvs, s _ _ h1, h2.mono (Same.tups s)⟩
theorem StD.to {S : Sys} {H H' : Hp} {d : Addr} {log : Log} (h : StD H d log) (t : S.T H H') (n : ¬ S.M d) : StD H' d log := by
  obtain ⟨kvs, h1, h2⟩ := h
  exact ⟨kvs, t.k _ _ n h1, h2.mono t.tups⟩
theorem HdD.to {S : Sys} {H H' : Hp} {d : Addr} {log : Hds} (h : HdD H d log) (t : S.T H H') (n : ¬ S.M d) : HdD H' d log := by
  obtain ⟨kvs, h1, h2⟩ := h
  exact ⟨kvs, t.k _ _ n h1, h2.mono t.tups⟩
/-- a log that is in order -/
structure LogOk (fs : List Kd) (log : Log) : Prop where
  id : ∀ e ∈ log, e.1 < 1200
  am : ∀ e ∈ log, OkA fs e.2
  nd : (log.map (·.1)).Nodup
theorem LogOk.inj {fs : List Kd} {log : Log} (o : LogOk fs log) {c : Nat} (hc : c < 1200) : ∀ e ∈ log, idK e.1 = idK c → e.1 = c := fun e he q => idK_inj (o.id e he) hc q
theorem LogOk.put {fs : List Kd} {log : Log} (o : LogOk fs log) {c : Nat} {a : Am} (hc : c < 1200) (ha : OkA fs a) : LogOk fs (pt log c a) :=
  ⟨fun e he => (pt_mem he).elim (o.id e) fun q => by rw [q]; exact hc, fun e he => (pt_mem he).elim (o.am e) fun q => by rw [q]; exact ha, pt_nodup o.nd⟩
theorem kS_inj {hs : Hds} {x : Str} : ∀ e ∈ hs, kS e.1 = kS x → e.1 = x := fun e _ q => Sum.inr.inj q
section
variable {S : Sys} {H H' H1 H2 : Hp} {σ : L2.St} {te ta tb tc tl td ty : TE} {tt : TT} {tr : TA} {o p q : Ob} {os ps : List Ob} {b : Bool} {v x y z : V} {K : PySem.W.Frag} {d : Addr} {fs : List Kd} {log : Log} {hs : Hds} {c : Nat} {a : Am}
theorem gv_dgetT (h : Gv S td σ H (.val (.ref d))) (hy : Gv S ty σ H (.dat (idD c))) (hd : ∀ H1, S.T H H1 → StD H1 d log) (ok : LogOk fs log) (hc : c < 1200) (l : lk log c = some a) : Gv S (tDGet td ty) σ H (.dat (amD a)) := fun H1 t Q k =>
  h H1 t _ fun x H2 t2 hx => hy H2 (t.trans t2) _ fun y H3 t3 hyv => by
    cases hx
    obtain ⟨kvs, h1, h2⟩ := hd H3 ((t.trans t2).trans t3)
    obtain ⟨e, rfl, he⟩ := id_at hyv
    obtain ⟨v, hv, rv⟩ := (h2.get (ok.inj hc)).2 a l
    exact ⟨d, v, rfl, hv ▸ DGet.t h1 he, k v H3 (t2.trans t3) rv⟩
theorem gv_dinT (hy : Gv S ty σ H (.dat (idD c))) (h : Gv S td σ H (.val (.ref d))) (hd : ∀ H1, S.T H H1 → StD H1 d log) (ok : LogOk fs log) (hc : c < 1200) : Gv S (tDIn ty td) σ H (.val (.bl (decide (c ∈ log.map (·.1))))) := fun H1 t Q k =>
  hy H1 t _ fun y H2 t2 hyv => h H2 (t.trans t2) _ fun x H3 t3 hx => by
    cases hx
    obtain ⟨kvs, h1, h2⟩ := hd H3 ((t.trans t2).trans t3)
    obtain ⟨e, rfl, he⟩ := id_at (Is.to (o := .dat (idD c)) hyv t3)
    refine ⟨d, _, rfl, DGet.t h1 he, k _ H3 (t2.trans t3) ?_⟩
    have g := h2.get (ok.inj hc)
    cases e : lk log c with
    | none =>
      rw [g.1 e]
      have n : c ∉ log.map (·.1) := fun m => by have := lk_isSome.mpr m; rw [e] at this; cases this
      exact congrArg V.bl (decide_eq_false n).symm
    | some a =>
      obtain ⟨v, hv, _⟩ := g.2 a e
      rw [hv]
      exact congrArg V.bl (decide_eq_true (lk_isSome.mp (by rw [e]; rfl))).symm
theorem gv_dninT (hy : Gv S ty σ H (.dat (idD c))) (h : Gv S td σ H (.val (.ref d))) (hd : ∀ H1, S.T H H1 → StD H1 d log) (ok : LogOk fs log) (hc : c < 1200) : Gv S (tDNotIn ty td) σ H (.val (.bl (decide (c ∉ log.map (·.1))))) := fun H1 t Q k =>
  hy H1 t _ fun y H2 t2 hyv => h H2 (t.trans t2) _ fun x H3 t3 hx => by
    cases hx
    obtain ⟨kvs, h1, h2⟩ := hd H3 ((t.trans t2).trans t3)
    obtain ⟨e, rfl, he⟩ := id_at (Is.to (o := .dat (idD c)) hyv t3)
    refine ⟨d, _, rfl, DGet.t h1 he, k _ H3 (t2.trans t3) ?_⟩
    have g := h2.get (ok.inj hc)
    cases e : lk log c with
    | none =>
      rw [g.1 e]
      have n : c ∉ log.map (·.1) := fun m => by have := lk_isSome.mpr m; rw [e] at this; cases this
      exact congrArg V.bl (decide_eq_true n).symm
    | some a =>
      obtain ⟨v, hv, _⟩ := g.2 a e
      rw [hv]
      exact congrArg V.bl (decide_eq_false (fun n => n (lk_isSome.mp (by rw [e]; rfl)))).symm
theorem gv_dgetS {w : Str} {l : List Nat} (h : Gv S td σ H (.val (.ref d))) (hy : Gv S ty σ H (.val (.str w))) (hd : ∀ H1, S.T H H1 → HdD H1 d hs) (e : lk hs w = some l) : Gv S (tDGet td ty) σ H (.dat (idsD l)) := fun H1 t Q k =>
  h H1 t _ fun x H2 t2 hx => hy H2 (t.trans t2) _ fun y H3 t3 hyv => by
    cases hx
    cases hyv
    obtain ⟨kvs, h1, h2⟩ := hd H3 ((t.trans t2).trans t3)
    obtain ⟨v, hv, rv⟩ := (h2.get kS_inj).2 l e
    exact ⟨d, v, rfl, hv ▸ DGet.k (k := kS w) h1, k v H3 (t2.trans t3) rv⟩
theorem gv_dninS {w : Str} (hy : Gv S ty σ H (.val (.str w))) (h : Gv S td σ H (.val (.ref d))) (hd : ∀ H1, S.T H H1 → HdD H1 d hs) : Gv S (tDNotIn ty td) σ H (.val (.bl (decide (w ∉ hs.map (·.1))))) := fun H1 t Q k =>
  hy H1 t _ fun y H2 t2 hyv => h H2 (t.trans t2) _ fun x H3 t3 hx => by
    cases hx
    cases hyv
    obtain ⟨kvs, h1, h2⟩ := hd H3 ((t.trans t2).trans t3)
    refine ⟨d, _, rfl, DGet.k (k := kS w) h1, k _ H3 (t2.trans t3) ?_⟩
    have g := h2.get (c := w) kS_inj
    cases e : lk hs w with
    | none =>
      rw [g.1 e]
      have n : w ∉ hs.map (·.1) := fun m => by have := lk_isSome.mpr m; rw [e] at this; cases this
      exact congrArg V.bl (decide_eq_true n).symm
    | some a =>
      obtain ⟨v, hv, _⟩ := g.2 a e
      rw [hv]
      exact congrArg V.bl (decide_eq_false (fun n => n (lk_isSome.mp (by rw [e]; rfl)))).symm
/-- a name of an own dict -/
theorem gv_own {kvs : List (Key × V)} {x : Str} (h : Gv S td σ H (.val (.ref d))) (hd : ∀ H1, S.T H H1 → H1 d = some (.dK kvs)) (l : valV kvs (kS x) = some v) (hv : Is H v o) : Gv S (tDGet td (tC (.str x))) σ H o := fun H1 t Q k =>
  h H1 t _ fun y H2 t2 hx => by
    cases hx
    exact ⟨d, v, rfl, l ▸ DGet.k (k := kS x) (hd H2 (t.trans t2)), k v H2 t2 (hv.to (t.trans t2))⟩
/-- a field -/
theorem gv_fld {r C dx : Addr} {l : List (Str × V)} {f : Str} (h : Gv S td σ H (.val (.ref r))) (hr : ∀ H1, S.T H H1 → H1 r = some (.ins C dx l)) (c : Cls K C) (n : NoAttr K C f) (e : l.lookup f = some v) (hv : Is H v o) : Gv S (tFld K td f) σ H o := fun H1 t Q k =>
  h H1 t _ fun y H2 t2 hx => by
    cases hx
    exact ⟨r, C, dx, l, v, rfl, hr H2 (t.trans t2), c, n, e, k v H2 t2 (hv.to (t.trans t2))⟩
theorem gv_ownD {kvs : List (Key × V)} {x : Str} {e : PyData} (h : Gv S td σ H (.val (.ref d))) (hd : ∀ H1, S.T H H1 → H1 d = some (.dK kvs)) (l : valV kvs (kS x) = some v) (hv : Rep H v e) : Gv S (tDGet td (tC (.str x))) σ H (.dat e) := gv_own h hd l hv
theorem gv_fldD {r C dx : Addr} {l : List (Str × V)} {f : Str} {e : PyData} (h : Gv S td σ H (.val (.ref r))) (hr : ∀ H1, S.T H H1 → H1 r = some (.ins C dx l)) (c : Cls K C) (n : NoAttr K C f) (g : l.lookup f = some v) (hv : Rep H v e) : Gv S (tFld K td f) σ H (.dat e) := gv_fld h hr c n g hv
/-- a dict is walked in a comprehension: it is locked -/
theorem gl_lock {u : HO} (hd : ∀ H1, S.T H H1 → H1 d = some u) (mu : Mut (some u)) (hL : ∀ H1 od, S.T H H1 → GvL S0 te σ (upd H1 d (.frz od u)) os) (hu : ∀ xs, u ≠ .tup xs) : GvL S (tLockE te) σ H os := fun H1 t Q k => by
  have h1 := hd H1 t
  refine ⟨d, u, h1, mu, fun od => ?_⟩
  refine (hL H1 od t).fin trivial fun p xs H2 hp t2 he hx => ?_
  have s2 := S0.same t2
  have e2 : H2 d = some (.frz od u) := s2 _ _ upd_same
  have npd : p ≠ d := fun e => by rw [e, upd_same] at hp; cases hp
  have s3 : Same H1 (upd H2 d u) := fun b w e => by
    by_cases q : b = d
    · rw [q, upd_same]
      rw [q] at e
      exact h1.symm.trans e
    · rw [upd_ne q]
      exact s2 _ _ (by rw [upd_ne q]; exact e)
  have tp : Tups H2 (upd H2 d u) := by
    refine ⟨fun b ys e => ?_, fun b o ys e => ?_⟩
    · rw [upd_ne fun q => ?_]
      · exact e
      · rw [q, e2] at e; cases e
    · rw [upd_ne fun q => ?_]
      · exact e
      · rw [q, e2] at e; cases e; exact hu _ rfl
  refine ⟨e2, k p xs _ ?_ (.of_same t.j' s3) (by rw [upd_ne npd]; exact he) (hx.mono tp)⟩
  rw [upd_ne npd] at hp
  exact hp
/-- the keys of a locked dict -/
theorem gi_keysT {od : Obj} {kvs : List (List Key × V)} (h : Gv S0 td σ H (.val (.ref d))) (hd : H d = some (.frz od (.dT kvs))) {l : List Nat} (hk : kvs.map (·.1) = l.map idK) : GvI S0 (iKeys td) σ H fun J H1 => WkL S0 J l (YD idD) H1 := fun H1 t R k =>
  h H1 t _ fun v H2 t2 hv => by
    cases hv
    have h2 := S0.same (t.trans t2) _ _ hd
    have lk : kvs.length = l.length := by have := congrArg List.length hk; simpa using this
    refine ⟨d, od, rfl, .inr ⟨kvs, h2, k _ H2 t2 ?_⟩⟩
    refine ⟨fun i H' hi a3 => ⟨S0.same a3 _ _ h2, by omega⟩, fun H' a3 => ⟨S0.same a3 _ _ h2, by omega⟩, fun i x H' H'' hi a3 y => ?_⟩
    obtain ⟨rfl, kk, w, q, e1, rfl, e2⟩ := y
    refine ⟨a3.fin, Same.refl _, l[i], List.getElem?_eq_getElem hi, ?_⟩
    have e3 : (kvs.map (·.1))[i]? = some kk := by rw [List.getElem?_map, e1]; rfl
    rw [hk, List.getElem?_map, List.getElem?_eq_getElem hi] at e3
    have e4 : idK l[i] = kk := Option.some.inj e3
    rw [← e4] at e2
    exact id_rep e2
theorem gi_keysS {od : Obj} {kvs : List (Key × V)} (h : Gv S0 td σ H (.val (.ref d))) (hd : H d = some (.frz od (.dK kvs))) {l : List Str} (hk : kvs.map (·.1) = l.map kS) : GvI S0 (iKeys td) σ H fun J H1 => WkL S0 J l (fun z x _ => x = V.str z) H1 := fun H1 t R k =>
  h H1 t _ fun v H2 t2 hv => by
    cases hv
    have h2 := S0.same (t.trans t2) _ _ hd
    have lk : kvs.length = l.length := by have := congrArg List.length hk; simpa using this
    refine ⟨d, od, rfl, .inl ⟨kvs, h2, k _ H2 t2 ?_⟩⟩
    refine ⟨fun i H' hi a3 => ⟨S0.same a3 _ _ h2, by omega⟩, fun H' a3 => ⟨S0.same a3 _ _ h2, by omega⟩, fun i x H' H'' hi a3 y => ?_⟩
    obtain ⟨rfl, kk, w, e1, rfl⟩ := y
    refine ⟨a3.fin, Same.refl _, l[i], List.getElem?_eq_getElem hi, ?_⟩
    have e3 : (kvs.map (·.1))[i]? = some kk := by rw [List.getElem?_map, e1]; rfl
    rw [hk, List.getElem?_map, List.getElem?_eq_getElem hi] at e3
    have e4 : kS l[i] = kk := Option.some.inj e3
    rw [← e4]
    rfl
end
end Ed

set_option maxHeartbeats 1000000
/-! EdRe: a replica, the law's own dict, a vault: as they stand. -/
namespace Ed
open PySem PySem.Spec PyProof.Rows L2
structure RSt where
  i : Nat
  fs : List Kd
  line : List Int
  log : Log
  m : Nat
  hs : Hds
/-- in order, as far as reading goes -/
structure RO (s : RSt) : Prop where
  i : s.i < 3
  fs : OkF s.fs
  line : OkR s.fs s.line
  log : LogOk s.fs s.log
  few : s.log.length ≤ 60
/-- in order -/
structure ROk (s : RSt) : Prop extends RO s where
  own : ∀ k, k < 400 → (400 * s.i + k ∈ s.log.map (·.1) ↔ k < s.m)
  m : s.m ≤ 100
  hs : ∀ e ∈ s.hs, (e.1 = "main" ∨ e.1 = "side") ∧ Lot e.2 ∧ ∀ c ∈ e.2, c ∈ s.log.map (·.1)
  hn : (s.hs.map (·.1)).Nodup
def insF (h : Str) (vF vA : V) (dS : Addr) (m : Nat) (dH : Addr) : List (Str × V) := [("hand", .str h), ("fields", vF), ("first", vA), ("steps", .ref dS), ("made", .int (m : Int)), ("by_name", .ref dH)]
def ownF (h : Str) (vF vL : V) (dS dH : Addr) : List (Key × V) := [(kS "hand", .str h), (kS "fields", vF), (kS "first", vL), (kS "steps", .ref dS), (kS "heads", .ref dH)]
def RAt (C : Addr) (H : Hp) (r dS dH : Addr) (s : RSt) : Prop := ∃ dx vF vA, H r = some (.ins C dx (insF (hnd s.i) vF vA dS s.m dH)) ∧ Rep H vF (fieldsD s.fs) ∧ Rep H vA (amD (amOf s.fs s.line)) ∧ StD H dS s.log ∧ HdD H dH s.hs
def OAt (H : Hp) (o dS dH : Addr) (s : RSt) : Prop := ∃ vF vL, H o = some (.dK (ownF (hnd s.i) vF vL dS dH)) ∧ Rep H vF (fieldsD s.fs) ∧ Rep H vL (tupI s.line) ∧ StD H dS s.log ∧ HdD H dH s.hs
structure RCl (K : PySem.W.Frag) (C : Addr) : Prop where
  c : Cls K C
  hand : NoAttr K C "hand"
  fields : NoAttr K C "fields"
  first : NoAttr K C "first"
  steps : NoAttr K C "steps"
  made : NoAttr K C "made"
  by_name : NoAttr K C "by_name"
section
variable {h : Str} {vF vA : V} {dS dH : Addr} {m : Nat}
theorem l_hand : (insF h vF vA dS m dH).lookup ("hand" : Str) = some (V.str h) := rfl
theorem l_fields : (insF h vF vA dS m dH).lookup ("fields" : Str) = some vF := rfl
theorem l_first : (insF h vF vA dS m dH).lookup ("first" : Str) = some vA := rfl
theorem l_steps : (insF h vF vA dS m dH).lookup ("steps" : Str) = some (.ref dS) := rfl
theorem l_made : (insF h vF vA dS m dH).lookup ("made" : Str) = some (.int (m : Int)) := rfl
theorem l_by_name : (insF h vF vA dS m dH).lookup ("by_name" : Str) = some (.ref dH) := rfl
theorem o_hand : valV (ownF h vF vA dS dH) (kS "hand") = some (.str h) := rfl
theorem o_fields : valV (ownF h vF vA dS dH) (kS "fields") = some vF := rfl
theorem o_first : valV (ownF h vF vA dS dH) (kS "first") = some vA := rfl
theorem o_steps : valV (ownF h vF vA dS dH) (kS "steps") = some (.ref dS) := rfl
theorem o_heads : valV (ownF h vF vA dS dH) (kS "heads") = some (.ref dH) := rfl
end
theorem RAt.same {C : Addr} {H H' : Hp} {r dS dH : Addr} {s : RSt} (h : RAt C H r dS dH s) (t : Same H H') : RAt C H' r dS dH s := by
  obtain ⟨dx, vF, vA, h1, h2, h3, h4, h5⟩ := h
  exact ⟨dx, vF, vA, t _ _ h1, h2.mono (Same.tups t), h3.mono (Same.tups t), h4.same t, h5.same t⟩
theorem RAt.to {S : Sys} {C : Addr} {H H' : Hp} {r dS dH : Addr} {s : RSt} (h : RAt C H r dS dH s) (t : S.T H H') (n1 : ¬ S.M r) (n2 : ¬ S.M dS) (n3 : ¬ S.M dH) : RAt C H' r dS dH s := by
  obtain ⟨dx, vF, vA, h1, h2, h3, h4, h5⟩ := h
  exact ⟨dx, vF, vA, t.k _ _ n1 h1, h2.mono t.tups, h3.mono t.tups, h4.to t n2, h5.to t n3⟩
theorem OAt.same {H H' : Hp} {r dS dH : Addr} {s : RSt} (h : OAt H r dS dH s) (t : Same H H') : OAt H' r dS dH s := by
  obtain ⟨vF, vA, h1, h2, h3, h4, h5⟩ := h
  exact ⟨vF, vA, t _ _ h1, h2.mono (Same.tups t), h3.mono (Same.tups t), h4.same t, h5.same t⟩
theorem OAt.to {S : Sys} {H H' : Hp} {r dS dH : Addr} {s : RSt} (h : OAt H r dS dH s) (t : S.T H H') (n1 : ¬ S.M r) (n2 : ¬ S.M dS) (n3 : ¬ S.M dH) : OAt H' r dS dH s := by
  obtain ⟨vF, vA, h1, h2, h3, h4, h5⟩ := h
  exact ⟨vF, vA, t.k _ _ n1 h1, h2.mono t.tups, h3.mono t.tups, h4.to t n2, h5.to t n3⟩
/-! ### the promises of reading methods -/
def spM (C : Addr) {ι : Type} (args : RSt → ι → List Ob) (pre : RSt → ι → Prop) (res : RSt → ι → Ob) : Sp := fun vs H Q _ => ∃ r dS dH s i us, vs = .ref r :: us ∧ RAt C H r dS dH s ∧ RO s ∧ IsL H us (args s i) ∧ pre s i ∧ ∀ v H', Same H H' → Is H' v (res s i) → Q v H'
def spO {ι : Type} (args : RSt → ι → List Ob) (pre : RSt → ι → Prop) (res : RSt → ι → Ob) : Sp := fun vs H Q _ => ∃ r dS dH s i us, vs = .ref r :: us ∧ OAt H r dS dH s ∧ RO s ∧ IsL H us (args s i) ∧ pre s i ∧ ∀ v H', Same H H' → Is H' v (res s i) → Q v H'
section
variable {S : Sys} {H H' H1 H2 : Hp} {σ : L2.St} {te ta tb tc tl td ty : TE} {tt : TT} {tr : TA} {o p q : Ob} {os ps : List Ob} {b : Bool} {v x y z : V} {K : PySem.W.Frag} {C r dS dH : Addr} {s : RSt}
variable {ι : Type} {args : RSt → ι → List Ob} {pre : RSt → ι → Prop} {res : RSt → ι → Ob}
theorem gv_meth {m : Str} (i : ι) (h : Gv S ta σ H (.val (.ref r))) (hr : ∀ H1, S.T H H1 → RAt C H1 r dS dH s) (ha : GvA S tr σ H (args s i)) (ok : RO s) (hp : pre s i) (hm : ∀ h vF vA dS m' dH, (insF h vF vA dS m' dH).lookup m = none := by exact fun _ _ _ _ _ _ => rfl) :
    Gv S (tMeth C m (spM C args pre res) [] E0 ta tr) σ H (res s i) := fun H1 t Q k =>
  h H1 t _ fun x H2 t2 hx => by
    cases hx
    obtain ⟨dx, vF, vA, h1, _⟩ := hr H2 (t.trans t2)
    refine ⟨r, dx, _, rfl, h1, hm _ _ _ _ _ _, ha H2 (t.trans t2) _ fun vs H3 t3 hvs => ?_⟩
    exact ⟨r, dS, dH, s, i, vs, by rw [List.append_nil], hr H3 ((t.trans t2).trans t3), ok, hvs, hp, fun v H4 sm hv => k v H4 ((t2.trans t3).trans (.of_same t3.j' sm)) hv⟩
theorem gv_callO (i : ι) (h : Gv S ta σ H (.val (.ref r))) (hr : ∀ H1, S.T H H1 → OAt H1 r dS dH s) (ha : GvA S tr σ H (args s i)) (ok : RO s) (hp : pre s i) : Gv S (tCall (spO args pre res) [] E0 (tCons ta tr)) σ H (res s i) := fun H1 t Q k =>
  h H1 t _ fun x H2 t2 hx => ha H2 (t.trans t2) _ fun vs H3 t3 hvs => by
    cases hx
    exact ⟨r, dS, dH, s, i, vs, by rw [List.append_nil], hr H3 ((t.trans t2).trans t3), ok, hvs, hp, fun v H4 sm hv => k v H4 ((t2.trans t3).trans (.of_same t3.j' sm)) hv⟩
end
section
variable {P : Program} {w : World} {K : PySem.W.Frag} {mg : Str → Option Value} {base : Heap} {C : Addr} {ι : Type} {args : RSt → ι → List Ob} {pre : RSt → ι → Prop} {res : RSt → ι → Ob}
theorem md_pure {m qn : Str} {st : Stmt} {N ps : List Str} {k : Nat} (c : Cls K C) (F : DfM K C m qn st) (S : FnScope N ps (defScope st))
    (hb : ∀ (kV doc pm : Value) (an : Option Addr) (cdv ct : Value) (us : List Value), us.length = ps.length → bindArgs (PySem.W.fnOf m qn (defArgs st) (defBody st) (defScope st) .none kV doc pm an cdv ct) ⟨us, []⟩ = pure (ps.zip us))
    (len : ∀ s i, (args s i).length + 1 = ps.length)
    (hbody : ∀ (f : Addr) (cdv : Value) (A : Around) (outer : List Env) (s0 : Shared) (H H0 : Hp) (E : XK) (r dS dH : Addr) (s : RSt) (us : List V) (i : ι), Room k (A.deeper (envOfC qn (defScope st) s0.heap.objs.size f cdv)) → RAt C H r dS dH s → RO s → IsL H us (args s i) → pre s i →
      ∃ t, PSs (cxOf CX0 P w K mg base N qn (defScope st) f cdv A outer s0 H0 E).nox (defBody st) t ∧ Gr S0 t (L2.start N (.ref r :: us)) H (res s i)) : Md P w K mg base C m (k + 1) (spM C args pre res) := by
  refine md_of c F S hb (fun vs H Q E h => by obtain ⟨r, dS, dH, s, i, us, rfl, _, _, h, _⟩ := h; rw [List.length_cons, h.length, len s i]) fun f cdv A outer s0 H vs Q E hr ⟨r, dS, dH, s, i, us, ev, h1, h2, h3, h4, h5⟩ => ?_
  subst ev
  obtain ⟨t, ht, g⟩ := hbody f cdv A outer s0 H H E r dS dH s us i hr h1 h2 h3 h4
  exact ⟨t, ht, g H S0.r _ fun v H2 a hv => h5 v H2 (S0.same a) hv⟩
theorem md_none {m qn : Str} {st : Stmt} {N ps : List Str} {k : Nat} (c : Cls K C) (F : DfM K C m qn st) (S : FnScope N ps (defScope st))
    (hb : ∀ (kV doc pm : Value) (an : Option Addr) (cdv ct : Value) (us : List Value), us.length = ps.length → bindArgs (PySem.W.fnOf m qn (defArgs st) (defBody st) (defScope st) .none kV doc pm an cdv ct) ⟨us, []⟩ = pure (ps.zip us))
    (len : ∀ s i, (args s i).length + 1 = ps.length)
    (hbody : ∀ (f : Addr) (cdv : Value) (A : Around) (outer : List Env) (s0 : Shared) (H H0 : Hp) (E : XK) (r dS dH : Addr) (s : RSt) (us : List V) (i : ι), Room k (A.deeper (envOfC qn (defScope st) s0.heap.objs.size f cdv)) → RAt C H r dS dH s → RO s → IsL H us (args s i) → pre s i →
      ∃ t, PSs (cxOf CX0 P w K mg base N qn (defScope st) f cdv A outer s0 H0 E).nox (defBody st) t ∧ Gf S0 t (L2.start N (.ref r :: us)) H) : Md P w K mg base C m (k + 1) (spM C args pre fun _ _ => .val .non) := by
  refine md_of c F S hb (fun vs H Q E h => by obtain ⟨r, dS, dH, s, i, us, rfl, _, _, h, _⟩ := h; rw [List.length_cons, h.length, len s i]) fun f cdv A outer s0 H vs Q E hr ⟨r, dS, dH, s, i, us, ev, h1, h2, h3, h4, h5⟩ => ?_
  subst ev
  obtain ⟨t, ht, g⟩ := hbody f cdv A outer s0 H H E r dS dH s us i hr h1 h2 h3 h4
  exact ⟨t, ht, g H S0.r _ fun σ' H2 a => h5 .non H2 (S0.same a) rfl⟩
theorem gd_own {x : Str} {st : Stmt} {N ps : List Str} {k : Nat} (F : DfD K mg x st) (S : FnScope N ps (defScope st))
    (hb : ∀ (kV doc pm : Value) (an : Option Addr) (cdv ct : Value) (us : List Value), us.length = ps.length → bindArgs (PySem.W.fnOf x x (defArgs st) (defBody st) (defScope st) .none kV doc pm an cdv ct) ⟨us, []⟩ = pure (ps.zip us))
    (len : ∀ s i, (args s i).length + 1 = ps.length)
    (hbody : ∀ (f : Addr) (cdv : Value) (A : Around) (outer : List Env) (s0 : Shared) (H H0 : Hp) (E : XK) (r dS dH : Addr) (s : RSt) (us : List V) (i : ι), Room k (A.deeper (envOfC x (defScope st) s0.heap.objs.size f cdv)) → OAt H r dS dH s → RO s → IsL H us (args s i) → pre s i →
      ∃ t, PSs (cxOf CX0 P w K mg base N x (defScope st) f cdv A outer s0 H0 E).nox (defBody st) t ∧ Gr S0 t (L2.start N (.ref r :: us)) H (res s i)) : Gd P w K mg base x (k + 1) (spO args pre res) := by
  refine gd_of F S hb (fun vs H Q E h => by obtain ⟨r, dS, dH, s, i, us, rfl, _, _, h, _⟩ := h; rw [List.length_cons, h.length, len s i]) fun f cdv A outer s0 H vs Q E hr ⟨r, dS, dH, s, i, us, ev, h1, h2, h3, h4, h5⟩ => ?_
  subst ev
  obtain ⟨t, ht, g⟩ := hbody f cdv A outer s0 H H E r dS dH s us i hr h1 h2 h3 h4
  exact ⟨t, ht, g H S0.r _ fun v H2 a hv => h5 v H2 (S0.same a) hv⟩
end
/-! ### what they tell -/
def lkD (log : Log) (c : Nat) : Am := (lk log c).getD []
def keys (log : Log) : List Nat := log.map (·.1)
def walkA (s : RSt) (lot : List Nat) : Am := lot.foldl (fun a c => puts s.fs a (lkD s.log c)) (amOf s.fs s.line)
def packD (p : Log) : PyData := .tuple (p.map fun e => .tuple [idD e.1, amD e.2])
def pkt (s : RSt) (ids : List Nat) : Log := ((srt idD (keys s.log)).filter fun c => decide (c ∉ ids)).map fun c => (c, lkD s.log c)
def nmS (ks : List Str) : List Str := (["main", "side"] : List Str).filter fun x => decide (x ∈ ks)
def headsD (l : Hds) : PyData := .tuple (l.map fun e => .tuple [.str e.1, idsD e.2])
def hdl (hs : Hds) : Hds := (nmS (hs.map (·.1))).map fun x => (x, (lk hs x).getD [])
theorem lkD_eq {log : Log} {c : Nat} (h : c ∈ keys log) : lk log c = some (lkD log c) := by
  obtain ⟨b, e⟩ := lk_some h
  rw [lkD, e]
  rfl
theorem RO.am {s : RSt} (o : RO s) {c : Nat} (h : c ∈ keys s.log) : OkA s.fs (lkD s.log c) := o.log.am _ (lk_mem (lkD_eq h))
theorem RO.key {s : RSt} (o : RO s) {c : Nat} (h : c ∈ keys s.log) : c < 1200 := by
  obtain ⟨e, he, rfl⟩ := List.mem_map.mp h
  exact o.log.id e he
theorem zip_am {fs : List Kd} {a : Am} {n : Nat} (h : a.length = fs.length) (hn : n < fs.length) : (fs[n], a[n]'(by omega)) ∈ fs.zip a := List.mem_of_getElem? (i := n) (zip_get (List.getElem?_eq_getElem hn) (List.getElem?_eq_getElem (by omega)))
theorem put_ok {s h m : List Int} (l1 : h.length = s.length) (l2 : m.length = s.length) (s2 : ∀ n ∈ s, 2 ≤ n) : Ok1 s (put s h m) := by
  refine ⟨by rw [put, List.length_map, List.length_zip, List.length_zip]; omega, fun p hp => ?_⟩
  obtain ⟨i, hi⟩ := List.mem_iff_getElem?.mp hp
  obtain ⟨e1, e2⟩ := List.getElem?_zip_eq_some.mp hi
  rw [put, List.getElem?_map] at e1
  cases q : (h.zip (m.zip s))[i]? with
  | none => rw [q] at e1; cases e1
  | some t =>
    rw [q] at e1
    obtain ⟨_, q2⟩ := List.getElem?_zip_eq_some.mp q
    obtain ⟨_, q3⟩ := List.getElem?_zip_eq_some.mp q2
    rw [e2] at q3
    have e3 : (t.1 + t.2.1).fmod t.2.2 = p.1 := Option.some.inj e1
    have e4 : p.2 = t.2.2 := Option.some.inj q3
    have := s2 _ (List.mem_of_getElem? e2)
    rw [← e3, e4]
    exact ⟨Int.fmod_nonneg_of_pos _ (by omega), Int.fmod_lt_of_pos _ (by omega)⟩
theorem stp_ok {s h m : List Int} (l1 : h.length = s.length) (l2 : m.length = s.length) (s2 : ∀ n ∈ s, 2 ≤ n) : Ok1 s (stp s h m) := by
  refine ⟨by rw [stp, List.length_map, List.length_zip, List.length_zip]; omega, fun p hp => ?_⟩
  obtain ⟨i, hi⟩ := List.mem_iff_getElem?.mp hp
  obtain ⟨e1, e2⟩ := List.getElem?_zip_eq_some.mp hi
  rw [stp, List.getElem?_map] at e1
  cases q : (h.zip (m.zip s))[i]? with
  | none => rw [q] at e1; cases e1
  | some t =>
    rw [q] at e1
    obtain ⟨_, q2⟩ := List.getElem?_zip_eq_some.mp q
    obtain ⟨_, q3⟩ := List.getElem?_zip_eq_some.mp q2
    rw [e2] at q3
    have e3 : (t.2.1 - t.1).fmod t.2.2 = p.1 := Option.some.inj e1
    have e4 : p.2 = t.2.2 := Option.some.inj q3
    have := s2 _ (List.mem_of_getElem? e2)
    rw [← e3, e4]
    exact ⟨Int.fmod_nonneg_of_pos _ (by omega), Int.fmod_lt_of_pos _ (by omega)⟩
theorem am_of3 {fs : List Kd} {a m : Am} {g : Kd × List Int × List Int → List Int} (ha : a.length = fs.length) (hm : m.length = fs.length) (h : ∀ k x y, (k, x) ∈ fs.zip a → (k, y) ∈ fs.zip m → Ok1 k.1 (g (k, x, y))) : OkA fs ((fs.zip (a.zip m)).map g) := by
  refine ⟨by rw [List.length_map, List.length_zip, List.length_zip]; omega, fun p hp => ?_⟩
  obtain ⟨i, hi⟩ := List.mem_iff_getElem?.mp hp
  obtain ⟨e1, e2⟩ := List.getElem?_zip_eq_some.mp hi
  rw [List.getElem?_map] at e2
  cases q : (fs.zip (a.zip m))[i]? with
  | none => rw [q] at e2; cases e2
  | some t =>
    rw [q] at e2
    obtain ⟨q1, q2⟩ := List.getElem?_zip_eq_some.mp q
    obtain ⟨q3, q4⟩ := List.getElem?_zip_eq_some.mp q2
    have e3 : g t = p.2 := Option.some.inj e2
    have e4 : t.1 = p.1 := Option.some.inj (q1.symm.trans e1)
    rw [← e3, ← e4]
    exact h _ _ _ (List.mem_of_getElem? (zip_get q1 q3)) (List.mem_of_getElem? (zip_get q1 q4))
theorem puts_ok {fs : List Kd} {a m : Am} (o : OkF fs) (ha : OkA fs a) (hm : OkA fs m) : OkA fs (puts fs a m) :=
  am_of3 ha.1 hm.1 fun k x y h1 h2 => put_ok (ha.2 _ h1).1 (hm.2 _ h2).1 (o.k k (List.of_mem_zip h1).1).s2
theorem stps_ok {fs : List Kd} {a m : Am} (o : OkF fs) (ha : OkA fs a) (hm : OkA fs m) : OkA fs (stps fs a m) :=
  am_of3 ha.1 hm.1 fun k x y h1 h2 => stp_ok (ha.2 _ h1).1 (hm.2 _ h2).1 (o.k k (List.of_mem_zip h1).1).s2
theorem amOf_ok {fs : List Kd} {r : List Int} (o : OkF fs) (h : OkR fs r) : OkA fs (amOf fs r) := by
  refine ⟨by rw [amOf, List.length_map, List.length_zip, h.1, Nat.min_self], fun p hp => ?_⟩
  obtain ⟨i, hi⟩ := List.mem_iff_getElem?.mp hp
  obtain ⟨e1, e2⟩ := List.getElem?_zip_eq_some.mp hi
  rw [amOf, List.getElem?_map] at e2
  cases q : (fs.zip r)[i]? with
  | none => rw [q] at e2; cases e2
  | some t =>
    rw [q] at e2
    obtain ⟨q1, q2⟩ := List.getElem?_zip_eq_some.mp q
    have e3 : t.1.2.getD t.2.toNat [] = p.2 := Option.some.inj e2
    have e4 : t.1 = p.1 := Option.some.inj (q1.symm.trans e1)
    have ok := h.2 t (List.mem_of_getElem? q)
    rw [← e3, ← e4]
    exact (o.k _ (List.mem_of_getElem? q1)).hh _ (getD_mem (by omega) [])
theorem walk_ok {s : RSt} (o : RO s) {lot : List Nat} (h : ∀ c ∈ lot, c ∈ keys s.log) : OkA s.fs (walkA s lot) := by
  have key : ∀ (lot : List Nat) (a : Am), OkA s.fs a → (∀ c ∈ lot, c ∈ keys s.log) → OkA s.fs (lot.foldl (fun a c => puts s.fs a (lkD s.log c)) a) := by
    intro lot
    induction lot with
    | nil => intro a ha _; exact ha
    | cons c l ih => intro a ha hl; exact ih _ (puts_ok o.fs ha (o.am (hl c (by simp)))) fun x hx => hl x (by simp [hx])
  exact key lot _ (amOf_ok o.fs o.line) h
theorem walk_take {s : RSt} {lot : List Nat} {i c : Nat} (e : lot[i]? = some c) : walkA s (lot.take (i + 1)) = puts s.fs (walkA s (lot.take i)) (lkD s.log c) := by
  rw [List.take_add_one, e]
  simp [walkA]
end Ed

set_option maxHeartbeats 1000000
/-! EdD7: reading methods of replicas; the own dict read. -/
namespace Ed
open PySem PySem.Spec PyProof.Rows L2
section
variable {P : Program} {w : World} {K : PySem.W.Frag} {mg : Str → Option Value} {base : Heap}
variable {C : Addr}
theorem isL0 {H : Hp} {vs : List V} (h : IsL H vs []) : vs = [] := by
  cases h
  rfl
theorem pl_am {n : Nat} {a : Am} : pl (n + 2) (amD a) = true := by
  simp only [amD, pl, List.all_eq_true, List.mem_map]
  rintro x ⟨h, _, rfl⟩
  exact pl_tupI
theorem amD_inj {a b : Am} (h : amD a = amD b) : a = b := by
  unfold amD at h
  exact (List.map_inj_right fun x y e => tupI_inj e).mp (PyData.tuple.inj h)
theorem amD_eq {a b : Am} : amD a = amD b ↔ a = b := ⟨amD_inj, fun e => e ▸ rfl⟩
def unl (s : RSt) (c : Nat) (a : Am) : Bool := if c ∈ keys s.log then decide (lkD s.log c ≠ a) else decide (c / 400 = s.i)
abbrev sp_Replica_known (C : Addr) : Sp := spM C (ι := Unit) (fun _ _ => []) (fun _ _ => True) (fun s _ => .dat (idsD (srt idD (keys s.log))))
abbrev sp_Replica_want_known (C : Addr) : Sp := spM C (ι := List Nat) (fun _ l => [.dat (idsD l)]) (fun s l => ∀ c ∈ l, c ∈ keys s.log) (fun _ _ => .val .non)
abbrev sp_Replica_want_lot (C : Addr) : Sp := spM C (ι := List Nat) (fun _ l => [.dat (idsD l)]) (fun s l => Lot l ∧ ∀ c ∈ l, c ∈ keys s.log) (fun _ _ => .val .non)
abbrev sp_Replica_amounts_at (C : Addr) : Sp := spM C (ι := List Nat) (fun _ l => [.dat (idsD l)]) (fun s l => ∀ c ∈ l, c ∈ keys s.log) (fun s l => .dat (amD (walkA s l)))
abbrev sp_Replica_amounts (C : Addr) : Sp := spM C (ι := List Nat) (fun _ l => [.dat (idsD l)]) (fun s l => Lot l ∧ ∀ c ∈ l, c ∈ keys s.log) (fun s l => .dat (amD (walkA s l)))
abbrev sp_Replica_record (C : Addr) : Sp := spM C (ι := List Nat) (fun _ l => [.dat (idsD l)]) (fun s l => Lot l ∧ ∀ c ∈ l, c ∈ keys s.log) (fun s l => .dat (recD (recAt s.fs (walkA s l))))
abbrev sp_Replica_barred (C : Addr) : Sp := spM C (ι := List Nat) (fun _ l => [.dat (idsD l)]) (fun s l => Lot l ∧ ∀ c ∈ l, c ∈ keys s.log) (fun s l => .dat (natD (barI (recAt s.fs (walkA s l)))))
abbrev sp_Replica_packet (C : Addr) : Sp := spM C (ι := List Nat) (fun _ l => [.dat (idsD l)]) (fun s l => Lot l) (fun s l => .dat (packD (pkt s l)))
abbrev sp_Replica_is_unlike (C : Addr) : Sp := spM C (ι := Nat × Am) (fun _ i => [.dat (idD i.1), .dat (amD i.2)]) (fun s i => i.1 < 1200) (fun s i => .val (.bl (unl s i.1 i.2)))
abbrev sp_Replica_head (C : Addr) : Sp := spM C (ι := Str × List Nat) (fun _ i => [.val (.str i.1)]) (fun s i => lk s.hs i.1 = some i.2) (fun s i => .dat (idsD i.2))
def HsOk (s : RSt) : Prop := (∀ e ∈ s.hs, e.1 = "main" ∨ e.1 = "side") ∧ (s.hs.map (·.1)).Nodup
abbrev sp_Replica_heads (C : Addr) : Sp := spM C (ι := Unit) (fun _ _ => []) (fun s _ => HsOk s) (fun s _ => .dat (headsD (hdl s.hs)))
abbrev sp_law_v_ids : Sp := spO (ι := Unit) (fun _ _ => []) (fun _ _ => True) (fun s _ => .dat (idsD (srt idD (keys s.log))))
abbrev sp_law_v_amounts_by_ids : Sp := spO (ι := List Nat) (fun _ l => [.dat (idsD l)]) (fun s l => ∀ c ∈ l, c ∈ keys s.log) (fun s l => .dat (amD (walkA s l)))
theorem srt_key {s : RSt} {c : Nat} (h : c ∈ srt idD (keys s.log)) : c ∈ keys s.log := srt_perm.mem_iff.mp h
theorem srt_len {l : List Nat} : (srt idD l).length = l.length := srt_perm.length_eq
theorem keys_len {log : Log} : (keys log).length = log.length := List.length_map ..
theorem barI_enum (l : List (Option Int)) : (((List.range l.length).zip l).filter fun p => decide (p.2 = none)).map (·.1) = barI l := by
  have key : ∀ (l : List (Option Int)) (n : Nat), (((List.range' n l.length).zip l).filter fun p => decide (p.2 = none)).map (·.1) = (List.range' n l.length).filter fun k => decide (l.getD (k - n) (some 0) = none) := by
    intro l
    induction l with
    | nil => intro n; rfl
    | cons x l ih =>
      intro n
      rw [List.length_cons, List.range'_succ, List.zip_cons_cons, List.filter_cons, List.filter_cons]
      have e0 : (x :: l).getD (n - n) (some 0) = x := by rw [Nat.sub_self]; rfl
      have e1 : (List.range' (n + 1) l.length).filter (fun k => decide ((x :: l).getD (k - n) (some 0) = none)) = (List.range' (n + 1) l.length).filter (fun k => decide (l.getD (k - (n + 1)) (some 0) = none)) := by
        refine List.filter_congr fun k hk => ?_
        have := (List.mem_range'_1.mp hk).1
        rw [show k - n = (k - (n + 1)) + 1 by omega]
        rfl
      rw [e0, e1, ← ih (n + 1)]
      by_cases q : x = none
      · rw [if_pos (decide_eq_true q), if_pos (decide_eq_true q)]
        rfl
      · rw [if_neg (by simpa using q), if_neg (by simpa using q)]
  have := key l 0
  rw [List.range_eq_range']
  rw [this, barI, List.range_eq_range']
  rfl

theorem nodup_sub {α : Type} [BEq α] [LawfulBEq α] : ∀ {l m : List α}, l.Nodup → (∀ x ∈ l, x ∈ m) → l.length ≤ m.length
  | [], _, _, _ => Nat.zero_le _
  | a :: l, m, nd, h => by
    have nd := List.nodup_cons.mp nd
    have ha := h a (by simp)
    have := nodup_sub (l := l) (m := m.erase a) nd.2 fun x hx => (List.mem_erase_of_ne fun e => nd.1 (by rw [← e]; exact hx)).mpr (h x (by simp [hx]))
    rw [List.length_erase_of_mem ha] at this
    have := List.length_pos_of_mem ha
    rw [List.length_cons]
    omega
theorem isL_strs {H : Hp} : ∀ l : List Str, IsL H (l.map V.str) (l.map fun x => Ob.val (.str x))
  | [] => .nil
  | x :: l => .cons rfl (isL_strs l)
theorem nmS_len (ks : List Str) : (nmS ks).length ≤ 2 := List.length_filter_le _ _
theorem nmS_mem {ks : List Str} {x : Str} (h : x ∈ nmS ks) : x ∈ ks := of_decide_eq_true (List.mem_filter.mp h).2

theorem sc_Replica_known : FnScope ["self"] ["self"] (defScope s_Replica_known) := ⟨rfl, rfl, rfl, by decide +kernel, rfl, by decide +kernel, by decide +kernel⟩
theorem ok_Replica_known (T : Tx mg) (cl : RCl K C) (F : DfM K C "known" "Replica.known" s_Replica_known)  : Md P w K mg base C "known" 1 (sp_Replica_known C) := md_pure (N := ["self"]) cl.c F sc_Replica_known (fun _ _ _ _ _ _ us hl => match us, hl with | [_], _ => rfl) (fun _ _ => rfl) fun f cdv A outer s0 H H0 E r dS dH s us i hr hR ok hv hp => by
  obtain ⟨dx, vF, vA, hr1, rF, rA, dSt, dHd⟩ := id hR
  have same0 : ∀ {H1 : Hp}, S0.T H H1 → H1 r = some (.ins C dx (insF (hnd s.i) vF vA dS s.m dH)) := fun t => S0.same t _ _ hr1
  have ev := isL0 hv
  subst ev
  obtain ⟨kvs, hd, ha⟩ := dSt
  refine ⟨_, (pss_one (ps_ret (pe_ct call_tuple_of T.tuple boot_tuple (pa_cons (pe_cb (cr_srtD hr rfl idD idK) T.sorted boot_sorted (pa_cons (pe_fld (pv 0) rfl) pa_nil)) pa_nil)))), ?_⟩
  exact gr_ret (gv_tupleL (gl_sortedD (l := keys s.log) (key := idK) (kvs := kvs) (gv_fld (gv_val rfl) (fun H1 t => S0.same t _ _ hr1) cl.c cl.steps l_steps rfl) (fun H1 t => S0.same t _ _ hd) (by rw [ha.k, keys, List.map_map]; rfl) (fun b _ H1 t e => id_rep e) (srt_of (by rw [keys_len]; have := ok.few; omega))))

theorem sc_Replica_want_known : FnScope ["self", "lot", "one"] ["self", "lot"] (defScope s_Replica_want_known) := ⟨rfl, rfl, rfl, by decide +kernel, rfl, by decide +kernel, by decide +kernel⟩
theorem ok_Replica_want_known (T : Tx mg) (cl : RCl K C) (F : DfM K C "want_known" "Replica.want_known" s_Replica_want_known)  : Md P w K mg base C "want_known" 1 (sp_Replica_want_known C) := md_none (N := ["self", "lot", "one"]) cl.c F sc_Replica_want_known (fun _ _ _ _ _ _ us hl => match us, hl with | [_, _], _ => rfl) (fun _ _ => rfl) fun f cdv A outer s0 H H0 E r dS dH s us i hr hR ok hv hp => by
  obtain ⟨dx, vF, vA, hr1, rF, rA, dSt, dHd⟩ := id hR
  have same0 : ∀ {H1 : Hp}, S0.T H H1 → H1 r = some (.ins C dx (insF (hnd s.i) vF vA dS s.m dH)) := fun t => S0.same t _ _ hr1
  obtain ⟨v0, rfl, h0⟩ := isL1 hv
  refine ⟨_, (pss_one (ps_for PassesOwn.never rfl (pi_tup (pv 1)) (pgn 2 sc_Replica_want_known.nd) (pss_one (ps_if (pt_cmp (pc_dnotin (hu_of hr) (pv 2) (pe_fld (pv 0) rfl))) pss_never pss_nil)))), ?_⟩
  refine gf_for (l := i) (gi_tup (enc := idD) (gv_var rfl h0)) (fun σ' => ∃ u, σ' = [some (.ref r), some v0, u]) ⟨none, rfl⟩ fun j z x σ' H1 hz a hq hy => ?_
  obtain ⟨u, rfl⟩ := hq
  have hk := hp z (List.mem_of_getElem? hz)
  exact ⟨[some (.ref r), some v0, some x], fun _ q => q, ⟨_, rfl⟩, gn_skip ((gt_B (gv_dninT (gv_vd rfl hy) (gv_fld (gv_val rfl) (fun H2 t => S0.same (a.trans t) _ _ hr1) cl.c cl.steps l_steps rfl) (fun H2 t => dSt.same (S0.same (a.trans t))) ok.log (ok.key hk))).cast (decide_eq_false fun n => n hk))⟩

theorem sc_Replica_want_lot : FnScope ["self", "lot"] ["self", "lot"] (defScope s_Replica_want_lot) := ⟨rfl, rfl, rfl, by decide +kernel, rfl, by decide +kernel, by decide +kernel⟩
theorem ok_Replica_want_lot (T : Tx mg) (cl : RCl K C) (F : DfM K C "want_lot" "Replica.want_lot" s_Replica_want_lot) (G_want_ids : Gd P w K mg base "want_ids" 6 sp_want_ids) (M_Replica_want_known : Md P w K mg base C "want_known" 1 (sp_Replica_want_known C)) : Md P w K mg base C "want_lot" 7 (sp_Replica_want_lot C) := md_none (N := ["self", "lot"]) cl.c F sc_Replica_want_lot (fun _ _ _ _ _ _ us hl => match us, hl with | [_, _], _ => rfl) (fun _ _ => rfl) fun f cdv A outer s0 H H0 E r dS dH s us i hr hR ok hv hp => by
  obtain ⟨dx, vF, vA, hr1, rF, rA, dSt, dHd⟩ := id hR
  have same0 : ∀ {H1 : Hp}, S0.T H H1 → H1 r = some (.ins C dx (insF (hnd s.i) vF vA dS s.m dH)) := fun t => S0.same t _ _ hr1
  obtain ⟨v0, rfl, h0⟩ := isL1 hv
  refine ⟨_, (pss_cons (ps_expr (pe_gd G_want_ids hr (pa_cons (pv 1) pa_nil)))
    (pss_one (ps_expr (pe_md M_Replica_want_known hr (pv 0) (pa_cons (pv 1) pa_nil))))), ?_⟩
  exact gf_seq (gn_drop (gv_call i (ga_one (gv_var rfl h0)) hp.1)) (gn_drop (gv_meth i (gv_val rfl) (fun H1 t => hR.same (S0.same t)) (ga_one (gv_var rfl h0)) ok hp.2)).gf

theorem sc_Replica_amounts_at : FnScope ["self", "lot", "found", "one"] ["self", "lot"] (defScope s_Replica_amounts_at) := ⟨rfl, rfl, rfl, by decide +kernel, rfl, by decide +kernel, by decide +kernel⟩
theorem ok_Replica_amounts_at (T : Tx mg) (cl : RCl K C) (F : DfM K C "amounts_at" "Replica.amounts_at" s_Replica_amounts_at) (G_amounts_behind : Gd P w K mg base "amounts_behind" 2 sp_amounts_behind) : Md P w K mg base C "amounts_at" 3 (sp_Replica_amounts_at C) := md_pure (N := ["self", "lot", "found", "one"]) cl.c F sc_Replica_amounts_at (fun _ _ _ _ _ _ us hl => match us, hl with | [_, _], _ => rfl) (fun _ _ => rfl) fun f cdv A outer s0 H H0 E r dS dH s us i hr hR ok hv hp => by
  obtain ⟨dx, vF, vA, hr1, rF, rA, dSt, dHd⟩ := id hR
  have same0 : ∀ {H1 : Hp}, S0.T H H1 → H1 r = some (.ins C dx (insF (hnd s.i) vF vA dS s.m dH)) := fun t => S0.same t _ _ hr1
  obtain ⟨v0, rfl, h0⟩ := isL1 hv
  refine ⟨_, (pss_cons (psn 2 sc_Replica_amounts_at.nd (pe_fld (pv 0) rfl))
    (pss_cons (ps_for PassesOwn.never rfl (pi_tup (pv 1)) (pgn 3 sc_Replica_amounts_at.nd) (pss_one (psn 2 sc_Replica_amounts_at.nd (pe_gd G_amounts_behind hr (pa_cons (pe_fld (pv 0) rfl) (pa_cons (pv 2) (pa_cons (pe_dget (hu_of hr) (pe_fld (pv 0) rfl) (pv 3) (fun _ _ => rfl)) pa_nil)))))))
    (pss_one (ps_ret (pv 2))))), ?_⟩
  refine gr_set (gv_fld (o := .val vA) (gv_val rfl) (fun H1 t => S0.same t _ _ hr1) cl.c cl.first l_first rfl) fun v1 H1 a1 hv1 => ?_
  have hv1 : v1 = vA := hv1
  subst hv1
  refine gre_seq (gx_for (S := S0) (l := i) (gi_tup (enc := idD) (gv_var rfl (h0.to a1))) (fun j σ' H' => ∃ v u, σ' = [some (.ref r), some v0, some v, u] ∧ Rep H' v (amD (walkA s (i.take j)))) (fun H2 a2 => ⟨v1, none, rfl, (rA.mono a1.tups).mono a2.tups⟩) fun j z x σ' H2 hz a2 hq hy => ?_) fun σ' H2 a2 hq => ?_
  · obtain ⟨H3, ⟨v, u, rfl, rv⟩, a3, s3⟩ := hq
    have rv := rv.mono a3.tups
    have hk := hp z (List.mem_of_getElem? hz)
    have a12 := a1.trans a2
    refine ⟨[some (.ref r), some v0, some v, some x], fun _ q => q, Gx.imp (gx_set (gv_call (ι := List Kd × List (List Int) × List (List Int)) (s.fs, walkA s (i.take j), lkD s.log z) (ga_three (gv_fldD (gv_val rfl) (fun H4 t => S0.same (a12.trans t) _ _ hr1) cl.c cl.fields l_fields (rF.mono a12.tups)) (gv_vd rfl rv) (gv_dgetT (gv_fld (gv_val rfl) (fun H4 t => S0.same (a12.trans t) _ _ hr1) cl.c cl.steps l_steps rfl) (gv_vd rfl hy) (fun H4 t => dSt.same (S0.same (a12.trans t))) ok.log (ok.key hk) (lkD_eq hk))) ⟨ok.fs, walk_ok ok fun c hc => hp c (List.mem_of_mem_take hc), ok.am hk⟩).ge) fun σ'' H4 a4 ⟨v2, h2, e2⟩ => ⟨v2, some x, e2, ?_⟩⟩
    rw [walk_take hz]
    exact h2
  · obtain ⟨v, u, rfl, rv⟩ := hq
    rw [List.take_length] at rv
    exact gr_ret (gv_vd rfl rv)

theorem sc_Replica_amounts : FnScope ["self", "lot"] ["self", "lot"] (defScope s_Replica_amounts) := ⟨rfl, rfl, rfl, by decide +kernel, rfl, by decide +kernel, by decide +kernel⟩
theorem ok_Replica_amounts (T : Tx mg) (cl : RCl K C) (F : DfM K C "amounts" "Replica.amounts" s_Replica_amounts) (M_Replica_want_lot : Md P w K mg base C "want_lot" 7 (sp_Replica_want_lot C)) (M_Replica_amounts_at : Md P w K mg base C "amounts_at" 3 (sp_Replica_amounts_at C)) : Md P w K mg base C "amounts" 8 (sp_Replica_amounts C) := md_pure (N := ["self", "lot"]) cl.c F sc_Replica_amounts (fun _ _ _ _ _ _ us hl => match us, hl with | [_, _], _ => rfl) (fun _ _ => rfl) fun f cdv A outer s0 H H0 E r dS dH s us i hr hR ok hv hp => by
  obtain ⟨dx, vF, vA, hr1, rF, rA, dSt, dHd⟩ := id hR
  have same0 : ∀ {H1 : Hp}, S0.T H H1 → H1 r = some (.ins C dx (insF (hnd s.i) vF vA dS s.m dH)) := fun t => S0.same t _ _ hr1
  obtain ⟨v0, rfl, h0⟩ := isL1 hv
  refine ⟨_, (pss_cons (ps_expr (pe_md M_Replica_want_lot hr (pv 0) (pa_cons (pv 1) pa_nil)))
    (pss_one (ps_ret (pe_md M_Replica_amounts_at hr (pv 0) (pa_cons (pv 1) pa_nil))))), ?_⟩
  exact gr_seq (gn_drop (gv_meth i (gv_val rfl) (fun H1 t => hR.same (S0.same t)) (ga_one (gv_var rfl h0)) ok hp)) (gr_ret (gv_meth i (gv_val rfl) (fun H1 t => hR.same (S0.same t)) (ga_one (gv_var rfl h0)) ok hp.2))

theorem sc_Replica_record : FnScope ["self", "lot"] ["self", "lot"] (defScope s_Replica_record) := ⟨rfl, rfl, rfl, by decide +kernel, rfl, by decide +kernel, by decide +kernel⟩
theorem ok_Replica_record (T : Tx mg) (cl : RCl K C) (F : DfM K C "record" "Replica.record" s_Replica_record) (G_record_at : Gd P w K mg base "record_at" 2 sp_record_at) (M_Replica_amounts : Md P w K mg base C "amounts" 8 (sp_Replica_amounts C)) : Md P w K mg base C "record" 9 (sp_Replica_record C) := md_pure (N := ["self", "lot"]) cl.c F sc_Replica_record (fun _ _ _ _ _ _ us hl => match us, hl with | [_, _], _ => rfl) (fun _ _ => rfl) fun f cdv A outer s0 H H0 E r dS dH s us i hr hR ok hv hp => by
  obtain ⟨dx, vF, vA, hr1, rF, rA, dSt, dHd⟩ := id hR
  have same0 : ∀ {H1 : Hp}, S0.T H H1 → H1 r = some (.ins C dx (insF (hnd s.i) vF vA dS s.m dH)) := fun t => S0.same t _ _ hr1
  obtain ⟨v0, rfl, h0⟩ := isL1 hv
  refine ⟨_, (pss_one (ps_ret (pe_gd G_record_at hr (pa_cons (pe_fld (pv 0) rfl) (pa_cons (pe_md M_Replica_amounts hr (pv 0) (pa_cons (pv 1) pa_nil)) pa_nil))))), ?_⟩
  exact gr_ret (gv_call (ι := List Kd × List (List Int)) (s.fs, walkA s i) (ga_two (gv_fld (gv_val rfl) (fun H4 t => S0.same t _ _ hr1) cl.c cl.fields l_fields rF) (gv_meth i (gv_val rfl) (fun H1 t => hR.same (S0.same t)) (ga_one (gv_var rfl h0)) ok hp)) ⟨ok.fs, walk_ok ok hp.2⟩)

theorem sc_Replica_barred : FnScope ["self", "lot", "field", "state"] ["self", "lot"] (defScope s_Replica_barred) := ⟨rfl, rfl, rfl, by decide +kernel, rfl, by decide +kernel, by decide +kernel⟩
theorem ok_Replica_barred (T : Tx mg) (cl : RCl K C) (F : DfM K C "barred" "Replica.barred" s_Replica_barred) (M_Replica_record : Md P w K mg base C "record" 9 (sp_Replica_record C)) : Md P w K mg base C "barred" 10 (sp_Replica_barred C) := md_pure (N := ["self", "lot", "field", "state"]) cl.c F sc_Replica_barred (fun _ _ _ _ _ _ us hl => match us, hl with | [_, _], _ => rfl) (fun _ _ => rfl) fun f cdv A outer s0 H H0 E r dS dH s us i hr hR ok hv hp => by
  obtain ⟨dx, vF, vA, hr1, rF, rA, dSt, dHd⟩ := id hR
  have same0 : ∀ {H1 : Hp}, S0.T H H1 → H1 r = some (.ins C dx (insF (hnd s.i) vF vA dS s.m dH)) := fun t => S0.same t _ _ hr1
  obtain ⟨v0, rfl, h0⟩ := isL1 hv
  refine ⟨_, (pss_one (ps_ret (pe_ct call_tuple_of T.tuple boot_tuple (pa_cons (pe_lc (own := [("field", 2), ("state", 3)]) (g := (g2 K 2 3)) (tt := (tTest (tOp _ (tVar 3) (tC _)))) (te := (tVar 2)) rfl sc_Replica_barred.nd (pi_enumT (by rfl) T.enumerate (pa_cons (pe_md M_Replica_record hr (pv 0) (pa_cons (pv 1) pa_nil)) pa_nil)) (blkOk_by (N := ["self", "lot", "field", "state"]) (sc := defScope s_Replica_barred) (by decide +kernel)) (fun _ _ _ _ _ => (pg_tup rfl (pgs_cons (pgn 2 sc_Replica_barred.nd) (pgs_cons (pgn 3 sc_Replica_barred.nd) pgs_nil)))) (fun _ _ _ _ _ => (pts_one (pt_cmpR op_isN (pv 3) pe_non (nomark _)))) (fun _ _ _ _ _ => (pv 2))) pa_nil)))), ?_⟩
  have ow := walk_ok ok hp.2
  have l6 := ok.fs.l6
  have lr : (recAt s.fs (walkA s i)).length = s.fs.length := by rw [recAt, List.length_map, List.length_zip, ow.1, Nat.min_self]
  generalize hrr : recAt s.fs (walkA s i) = rr at *
  refine gr_ret ((gv_tupleL (ds := (((List.range rr.length).zip rr).filter fun p => decide (p.2 = none)).map fun p => .int (p.1 : Int)) ((gl_lc2 (lp := (List.range rr.length).zip rr) (keep := fun p => decide (p.2 = none)) (f := fun p => Ob.dat (.int (p.1 : Int))) (gi_enumT (l := rr) (ea := oD) (ga_one (hrr ▸ gv_meth (args := fun _ l => [.dat (idsD l)]) (pre := fun s l => Lot l ∧ ∀ c ∈ l, c ∈ keys s.log) (res := fun s l => .dat (recD (recAt s.fs (walkA s l)))) i (gv_val rfl) (fun H1 t => hR.same (S0.same t)) (ga_one (gv_var rfl h0)) ok hp))) (by rw [List.length_zip, List.length_range]; omega) (fun _ _ => rfl) fun j z x y H1 hz a hx hy => ?_).cast (by rw [List.map_map]; rfl))).cast ?_)
  · have hx' : x = .int (z.1 : Int) := hx
    subst hx'
    refine ⟨?_, fun _ => Gv.int_dat (gv_val rfl)⟩
    cases e : z.2 with
    | none => exact (gt_test (gv_op (Gv.non_val (gv_vd rfl (e ▸ hy : Rep H1 y (oD none)))) gv_cv rg_isN)).cast rfl
    | some t => exact (gt_test (gv_op (Gv.int_val (gv_vd rfl (e ▸ hy : Rep H1 y (oD (some t))))) gv_cv rg_isN)).cast rfl
  · rw [natD, ← barI_enum, List.map_map]
    rfl

theorem sc_Replica_packet : FnScope ["self", "ids", "one"] ["self", "ids"] (defScope s_Replica_packet) := ⟨rfl, rfl, rfl, by decide +kernel, rfl, by decide +kernel, by decide +kernel⟩
theorem ok_Replica_packet (T : Tx mg) (cl : RCl K C) (F : DfM K C "packet" "Replica.packet" s_Replica_packet) (G_want_ids : Gd P w K mg base "want_ids" 6 sp_want_ids) (M_Replica_known : Md P w K mg base C "known" 1 (sp_Replica_known C)) : Md P w K mg base C "packet" 7 (sp_Replica_packet C) := md_pure (N := ["self", "ids", "one"]) cl.c F sc_Replica_packet (fun _ _ _ _ _ _ us hl => match us, hl with | [_, _], _ => rfl) (fun _ _ => rfl) fun f cdv A outer s0 H H0 E r dS dH s us i hr hR ok hv hp => by
  obtain ⟨dx, vF, vA, hr1, rF, rA, dSt, dHd⟩ := id hR
  have same0 : ∀ {H1 : Hp}, S0.T H H1 → H1 r = some (.ins C dx (insF (hnd s.i) vF vA dS s.m dH)) := fun t => S0.same t _ _ hr1
  obtain ⟨v0, rfl, h0⟩ := isL1 hv
  refine ⟨_, (pss_cons (ps_expr (pe_gd G_want_ids hr (pa_cons (pv 1) pa_nil)))
    (pss_one (ps_ret (pe_ct call_tuple_of T.tuple boot_tuple (pa_cons (pe_lc (own := [("one", 2)]) (g := (gName 2)) (tt := (tTest (tOp (rInTD K true) (tVar 2) (tVar 1)))) (te := (tTup (tCons (tVar 2) (tCons (tDGet (tFld K (tVar 0) "steps") (tVar 2)) tNil)))) rfl sc_Replica_packet.nd (pi_tup (pe_md0 M_Replica_known hr (pv 0))) (blkOk_by (N := ["self", "ids", "one"]) (sc := defScope s_Replica_packet) (by decide +kernel)) (fun _ _ _ _ _ => (pgn 2 sc_Replica_packet.nd)) (fun _ _ _ _ _ => (pts_one (pt_cmpR (op_ninTD (hu65 hr)) (pv 2) (pv 1) (by rfl)))) (fun _ _ _ _ _ => (pe_tup (pa_cons (pv 2) (pa_cons (pe_dget (hu_of hr) (pe_fld (pv 0) rfl) (pv 2) (fun _ _ => rfl)) pa_nil))))) pa_nil))))), ?_⟩
  refine gr_seq (gn_drop (gv_call i (ga_one (gv_var rfl h0)) hp)) (gr_ret ((gv_tupleL (ds := ((srt idD (keys s.log)).filter fun c => decide (c ∉ i)).map fun c => .tuple [idD c, amD (lkD s.log c)]) ((gl_lc1 (l := srt idD (keys s.log)) (keep := fun c => decide (c ∉ i)) (f := fun c => Ob.dat (.tuple [idD c, amD (lkD s.log c)])) (gi_tup (enc := idD) (gv_meth (args := fun _ _ => []) (pre := fun _ _ => True) (res := fun s _ => .dat (idsD (srt idD (keys s.log)))) () (gv_val rfl) (fun H1 t => hR.same (S0.same t)) ga_nil ok trivial)) (by rw [srt_len, keys_len]; have := ok.few; omega) (fun _ => rfl) fun j z x H1 hz a hy => ?_).cast (by rw [List.map_map]; rfl))).cast ?_))
  · have hk := srt_key (List.mem_of_getElem? hz)
    refine ⟨(gt_test (gv_op (gv_vd rfl hy) (gv_var rfl (h0.to a)) (rg_inTD (l := i) (enc := idD) (neg := true) (c := decide (z ∈ i)) (fun _ _ => pl_id) pl_id ?_))).cast (by simp), fun _ => gv_tup (ds := [idD z, amD (lkD s.log z)]) (ga_two (gv_vd rfl hy) (gv_dgetT (gv_fld (gv_val rfl) (fun H4 t => S0.same (a.trans t) _ _ hr1) cl.c cl.steps l_steps rfl) (gv_vd rfl hy) (fun H4 t => dSt.same (S0.same (a.trans t))) ok.log (ok.key hk) (lkD_eq hk))) (by show 2 ≤ 100000; decide)⟩
    rw [decide_eq_true_iff]
    exact ⟨fun h => ⟨_, h, rfl⟩, fun ⟨a, ha, e⟩ => id_inj (hp.1 a ha) (ok.key hk) e ▸ ha⟩
  · rw [packD, pkt, List.map_map]
    rfl

theorem sc_Replica_is_unlike : FnScope ["self", "one", "steps"] ["self", "one", "steps"] (defScope s_Replica_is_unlike) := ⟨rfl, rfl, rfl, by decide +kernel, rfl, by decide +kernel, by decide +kernel⟩
theorem ok_Replica_is_unlike (T : Tx mg) (cl : RCl K C) (F : DfM K C "is_unlike" "Replica.is_unlike" s_Replica_is_unlike)  : Md P w K mg base C "is_unlike" 1 (sp_Replica_is_unlike C) := md_pure (N := ["self", "one", "steps"]) cl.c F sc_Replica_is_unlike (fun _ _ _ _ _ _ us hl => match us, hl with | [_, _, _], _ => rfl) (fun _ _ => rfl) fun f cdv A outer s0 H H0 E r dS dH s us i hr hR ok hv hp => by
  obtain ⟨dx, vF, vA, hr1, rF, rA, dSt, dHd⟩ := id hR
  have same0 : ∀ {H1 : Hp}, S0.T H H1 → H1 r = some (.ins C dx (insF (hnd s.i) vF vA dS s.m dH)) := fun t => S0.same t _ _ hr1
  obtain ⟨v0, v1, rfl, h0, h1⟩ := isL2 hv
  refine ⟨_, (pss_cons (ps_if (pt_cmp (pc_din (hu_of hr) (pv 1) (pe_fld (pv 0) rfl))) (pss_one (ps_ret (pe_cmpR (op_neD hr.units) (pe_dget (hu_of hr) (pe_fld (pv 0) rfl) (pv 1) (fun _ _ => rfl)) (pv 2) (nomark _)))) pss_nil)
    (pss_one (ps_ret (pe_cmpR op_eq (pe_ix ix_tup (pv 1) pe_int (fun _ _ => rfl)) (pe_fld (pv 0) rfl) (nomark _))))), ?_⟩
  have fS : ∀ {H1 : Hp}, S0.T H H1 → Gv S0 (tFld K (tVar 0) "steps") (L2.start ["self", "one", "steps"] [.ref r, v0, v1]) H1 (.val (.ref dS)) := fun a => gv_fld (gv_val rfl) (fun H4 t => S0.same (a.trans t) _ _ hr1) cl.c cl.steps l_steps rfl
  refine gr_ifR (b := decide (i.1 ∈ keys s.log)) (gt_B (gv_dinT (gv_var rfl h0) (fS S0.r) (fun H4 t => dSt.same (S0.same t)) ok.log hp)) (fun c => ?_) (fun _ => gn_next) fun c => ?_
  · have c := of_decide_eq_true c
    refine gr_ret ((gv_op (gv_dgetT (fS S0.r) (gv_var rfl h0) (fun H4 t => dSt.same (S0.same t)) ok.log hp (lkD_eq c)) (gv_var rfl h1) (rg_neD (c := decide (lkD s.log i.1 = i.2)) pl_am pl_am (by rw [decide_eq_true_iff]; exact amD_eq.symm))).bl_cast ?_)
    rw [unl, if_pos c]
    by_cases q : lkD s.log i.1 = i.2 <;> simp [q]
  · have c := of_decide_eq_false c
    refine gr_ret ((gv_op (Gv.str_val (gv_ixT (i := 0) (ds := [.str (hnd (i.1 / 400)), .int ((i.1 % 400 : Nat) : Int)]) (gv_var rfl h0) gv_int rfl rfl)) (gv_fld (o := .val (.str (hnd s.i))) (gv_val rfl) (fun H4 t => S0.same t _ _ hr1) cl.c cl.hand l_hand rfl) (rg_eq rfl)).bl_cast ?_)
    rw [unl, if_neg c, decide_eq_decide]
    have hi := ok.i
    constructor
    · intro e
      have e : hnd (i.1 / 400) = hnd s.i := V.str.inj e
      exact congrArg Fin.val (hnd_inj ⟨i.1 / 400, by have : i.1 < 1200 := hp; omega⟩ ⟨s.i, hi⟩ e)
    · intro e
      rw [e]

theorem sc_Replica_head : FnScope ["self", "name"] ["self", "name"] (defScope s_Replica_head) := ⟨rfl, rfl, rfl, by decide +kernel, rfl, by decide +kernel, by decide +kernel⟩
theorem ok_Replica_head (T : Tx mg) (cl : RCl K C) (F : DfM K C "head" "Replica.head" s_Replica_head)  : Md P w K mg base C "head" 1 (sp_Replica_head C) := md_pure (N := ["self", "name"]) cl.c F sc_Replica_head (fun _ _ _ _ _ _ us hl => match us, hl with | [_, _], _ => rfl) (fun _ _ => rfl) fun f cdv A outer s0 H H0 E r dS dH s us i hr hR ok hv hp => by
  obtain ⟨dx, vF, vA, hr1, rF, rA, dSt, dHd⟩ := id hR
  have same0 : ∀ {H1 : Hp}, S0.T H H1 → H1 r = some (.ins C dx (insF (hnd s.i) vF vA dS s.m dH)) := fun t => S0.same t _ _ hr1
  obtain ⟨v0, rfl, h0⟩ := isL1 hv
  refine ⟨_, (pss_cons (ps_if (pt_cmp (pc_dnotin (hu_of hr) (pv 1) (pe_fld (pv 0) rfl))) pss_never pss_nil)
    (pss_one (ps_ret (pe_dget (hu_of hr) (pe_fld (pv 0) rfl) (pv 1) (fun _ _ => rfl))))), ?_⟩
  have hv0 : v0 = .str i.1 := h0
  subst hv0
  have fS : Gv S0 (tFld K (tVar 0) "by_name") (L2.start ["self", "name"] [.ref r, .str i.1]) H (.val (.ref dH)) := gv_fld (gv_val rfl) (fun H4 t => S0.same t _ _ hr1) cl.c cl.by_name l_by_name rfl
  have hm : i.1 ∈ s.hs.map (·.1) := lk_isSome.mp (by rw [hp]; rfl)
  exact gr_skip ((gt_B (gv_dninS (w := i.1) (gv_val rfl) fS (fun H4 t => dHd.same (S0.same t)))).cast (decide_eq_false fun n => n hm)) (gr_ret (gv_dgetS fS (gv_val rfl) (fun H4 t => dHd.same (S0.same t)) hp))

theorem nm_eq {ks ys : List Str} (hk : ∀ x ∈ ks, x = "main" ∨ x = "side") (nd : ks.Nodup) (pm : ys.Perm ks) (so : sortedS ys = true) : ys = nmS ks := by
  have ny := pm.symm.nodup nd
  have hy : ∀ x ∈ ys, x = "main" ∨ x = "side" := fun x hx => hk x (pm.mem_iff.mp hx)
  have e : nmS ks = nmS ys := by
    unfold nmS
    exact List.filter_congr fun x _ => decide_eq_decide.mpr pm.mem_iff.symm
  rw [e]
  have ns : ("main" : Str) ≠ "side" := by decide +kernel
  match ys, ny, hy, so with
  | [], _, _, _ => rfl
  | [x], _, hy, _ =>
    rcases hy x (by simp) with rfl | rfl
    · decide +kernel
    · decide +kernel
  | [x, y], ny, hy, so =>
    have nxy : x ≠ y := by
      have := (List.nodup_cons.mp ny).1
      exact fun e => this (by rw [e]; simp)
    rcases hy x (by simp) with rfl | rfl
    · rcases hy y (by simp) with rfl | rfl
      · exact absurd rfl nxy
      · decide +kernel
    · rcases hy y (by simp) with rfl | rfl
      · exact absurd so (by decide +kernel)
      · exact absurd rfl nxy
  | x :: y :: z :: r, ny, hy, so =>
    exfalso
    have n1 := (List.nodup_cons.mp ny).1
    have n2 := (List.nodup_cons.mp (List.nodup_cons.mp ny).2).1
    have hx := hy x (by simp)
    have hyy := hy y (by simp)
    have hz := hy z (by simp)
    rcases hx with rfl | rfl <;> rcases hyy with rfl | rfl <;> rcases hz with rfl | rfl <;> first | exact n1 (List.mem_cons_self ..) | exact n1 (List.mem_cons_of_mem _ (List.mem_cons_self ..)) | exact n2 (List.mem_cons_self ..)
theorem gl_sortedN {S : Sys} {σ : L2.St} {H : Hp} {te : TE} {d : Addr} {hs : Hds} (h : Gv S te σ H (.val (.ref d))) (hd : ∀ H1, S.T H H1 → HdD H1 d hs) (hk : ∀ e ∈ hs, e.1 = "main" ∨ e.1 = "side") (nd : (hs.map (·.1)).Nodup) :
    GvL S (tCB (fun xs H Q => ∃ (a : Addr) (kvs : List (Key × V)) (ks : List Str), xs = [.ref a] ∧ Rd H a (.dK kvs) ∧ kvs.map (·.1) = ks.map Sum.inr ∧ ks.length < 64 ∧ ∀ ys p, ys.Perm ks → sortedS ys = true → H p = none → Q (.ref p) (upd H p (.lst (ys.map V.str)))) (tCons te tNil)) σ H ((nmS (hs.map (·.1))).map fun x => Ob.val (.str x)) := fun H1 t Q k =>
  h H1 t _ fun v H2 t2 hv => by
    cases hv
    obtain ⟨kvs, h1, h2⟩ := hd H2 (t.trans t2)
    have hk' : ∀ x ∈ hs.map (·.1), x = ("main" : Str) ∨ x = ("side" : Str) := fun x hx => by
      obtain ⟨e, he, rfl⟩ := List.mem_map.mp hx
      exact hk e he
    have l2 : (hs.map (·.1)).length < 64 := by
      have e : (hs.map (·.1)).length ≤ (["main", "side"] : List Str).length := nodup_sub nd fun x hx => by
        rcases hk' x hx with rfl | rfl <;> simp
      exact Nat.lt_of_le_of_lt e (by decide)
    refine ⟨d, kvs, hs.map (·.1), rfl, .inl h1, by rw [h2.k, List.map_map]; rfl, l2, fun ys p pm so hp => ?_⟩
    rw [nm_eq hk' nd pm so]
    have t3 := Sys.T.new (S := S) (o := .lst ((nmS (hs.map (·.1))).map V.str)) t2.j' hp
    exact k p _ _ (t2.free hp) (t2.trans t3) upd_same (isL_strs _)

theorem sc_Replica_heads : FnScope ["self", "name"] ["self"] (defScope s_Replica_heads) := ⟨rfl, rfl, rfl, by decide +kernel, rfl, by decide +kernel, by decide +kernel⟩
theorem ok_Replica_heads (T : Tx mg) (cl : RCl K C) (F : DfM K C "heads" "Replica.heads" s_Replica_heads)  : Md P w K mg base C "heads" 1 (sp_Replica_heads C) := md_pure (N := ["self", "name"]) cl.c F sc_Replica_heads (fun _ _ _ _ _ _ us hl => match us, hl with | [_], _ => rfl) (fun _ _ => rfl) fun f cdv A outer s0 H H0 E r dS dH s us i hr hR ok hv hp => by
  obtain ⟨dx, vF, vA, hr1, rF, rA, dSt, dHd⟩ := id hR
  have same0 : ∀ {H1 : Hp}, S0.T H H1 → H1 r = some (.ins C dx (insF (hnd s.i) vF vA dS s.m dH)) := fun t => S0.same t _ _ hr1
  have ev := isL0 hv
  subst ev
  refine ⟨_, (pss_one (ps_ret (pe_ct call_tuple_of T.tuple boot_tuple (pa_cons (pe_lc (own := [("name", 1)]) (g := (gName 1)) (tt := tYes) (te := (tTup (tCons (tVar 1) (tCons (tDGet (tFld K (tVar 0) "by_name") (tVar 1)) tNil)))) rfl sc_Replica_heads.nd (pi_list (pe_cb (call_sortedD rfl) T.sorted boot_sorted (pa_cons (pe_fld (pv 0) rfl) pa_nil))) (blkOk_by (N := ["self", "name"]) (sc := defScope s_Replica_heads) (by decide +kernel)) (fun _ _ _ _ _ => (pgn 1 sc_Replica_heads.nd)) (fun _ _ _ _ _ => pts_nil) (fun _ _ _ _ _ => (pe_tup (pa_cons (pv 1) (pa_cons (pe_dget (hu_of hr) (pe_fld (pv 0) rfl) (pv 1) (fun _ _ => rfl)) pa_nil))))) pa_nil)))), ?_⟩
  have fS : ∀ {σ : L2.St} {H1 : Hp}, σ[0]? = some (some (.ref r)) → S0.T H H1 → Gv S0 (tFld K (tVar 0) "by_name") σ H1 (.val (.ref dH)) := fun e a => gv_fld (gv_val e) (fun H4 t => S0.same (a.trans t) _ _ hr1) cl.c cl.by_name l_by_name rfl
  refine gr_ret ((gv_tupE (l := nmS (s.hs.map (·.1))) (f := fun x => .tuple [.str x, idsD ((lk s.hs x).getD [])]) (gl_lc1y (Y := fun x v H => Is H v (.val (.str x))) (gi_listN (f := fun x => Ob.val (.str x)) (gl_sortedN (fS rfl S0.r) (fun H1 t => dHd.same (S0.same t)) hp.1 hp.2)) (by have := nmS_len (s.hs.map (·.1)); omega) (fun _ => rfl) fun j z x H1 hz a hy => ?_)).cast ?_)
  · have hx : x = .str z := hy
    subst hx
    have hm := nmS_mem (List.mem_of_getElem? hz)
    obtain ⟨l, hl⟩ := lk_some hm
    rw [hl]
    exact gv_tup (ds := [.str z, idsD l]) (ga_two (Gv.str_dat (gv_val rfl)) (gv_dgetS (fS rfl a) (gv_val rfl) (fun H4 t => dHd.same (S0.same (a.trans t))) hl)) (by show 2 ≤ 100000; decide)
  · rw [headsD, hdl, List.map_map]
    rfl

theorem sc_law_v_ids : FnScope ["_law_own", "_law_one_here"] ["_law_own"] (defScope s_law_v_ids) := ⟨rfl, rfl, rfl, by decide +kernel, rfl, by decide +kernel, by decide +kernel⟩
theorem ok_law_v_ids (T : Tx mg) (F : DfD K mg "_law_v_ids" s_law_v_ids)  : Gd P w K mg base "_law_v_ids" 1 sp_law_v_ids := gd_own (N := ["_law_own", "_law_one_here"]) F sc_law_v_ids (fun _ _ _ _ _ _ us hl => match us, hl with | [_], _ => rfl) (fun _ _ => rfl) fun f cdv A outer s0 H H0 E r dS dH s us i hr hR ok hv hp => by
  obtain ⟨vF, vA, hr1, rF, rA, dSt, dHd⟩ := id hR
  have same0 : ∀ {H1 : Hp}, S0.T H H1 → H1 r = some (.dK (ownF (hnd s.i) vF vA dS dH)) := fun t => S0.same t _ _ hr1
  have ev := isL0 hv
  subst ev
  obtain ⟨kvs, hd, ha⟩ := id dSt
  refine ⟨_, (pss_one (ps_ret (pe_ct call_tuple_of T.tuple boot_tuple (pa_cons (pe_cb (cr_srtL hr idD) T.sorted boot_sorted (pa_cons (pe_lock (pe_lc (own := [("_law_one_here", 1)]) (g := (gName 1)) (tt := tYes) (te := (tVar 1)) rfl sc_law_v_ids.nd (pi_keys (pe_dget (hu_of hr) (pv 0) pe_str (fun _ _ => rfl))) (blkOk_by (N := ["_law_own", "_law_one_here"]) (sc := defScope s_law_v_ids) (by decide +kernel)) (fun _ _ _ _ _ => (pgn 1 sc_law_v_ids.nd)) (fun _ _ _ _ _ => pts_nil) (fun _ _ _ _ _ => (pv 1)))) pa_nil)) pa_nil)))), ?_⟩
  have lk' : kvs.map (·.1) = (keys s.log).map idK := by rw [ha.k, keys, List.map_map]; rfl
  have nd : dS ≠ r := fun e => by rw [e, hr1] at hd; cases hd
  refine gr_ret (gv_tupleL (gl_sorted (l := keys s.log) ((gl_lock (d := dS) (u := .dT kvs) (fun H1 t => S0.same t _ _ hd) trivial (fun H1 od t => ?_) (fun xs e => by cases e)).cast (os := (keys s.log).map fun z => Ob.dat (idD z)) (by rw [List.map_map]; rfl)) (srt_of (by rw [keys_len]; have := ok.few; omega))))
  refine gl_lc1y (l := keys s.log) (gi_keysT (gv_own (v := .ref dS) (kvs := ownF (hnd s.i) vF vA dS dH) (gv_val rfl) (fun H2 t2 => S0.same t2 _ _ (by rw [upd_ne nd.symm]; exact S0.same t _ _ hr1)) o_steps rfl) upd_same lk') (by rw [keys_len]; have := ok.few; omega) (fun _ => rfl) fun j z x H2 hz a hy => gv_vd rfl hy

theorem sc_law_v_amounts_by_ids : FnScope ["_law_own", "_law_lot", "_law_here", "_law_one_here"] ["_law_own", "_law_lot"] (defScope s_law_v_amounts_by_ids) := ⟨rfl, rfl, rfl, by decide +kernel, rfl, by decide +kernel, by decide +kernel⟩
theorem ok_law_v_amounts_by_ids (T : Tx mg) (F : DfD K mg "_law_v_amounts_by_ids" s_law_v_amounts_by_ids) (G_law_v_amounts : Gd P w K mg base "_law_v_amounts" 1 sp_law_v_amounts) (G_law_v_moved : Gd P w K mg base "_law_v_moved" 2 sp_law_v_moved) : Gd P w K mg base "_law_v_amounts_by_ids" 3 sp_law_v_amounts_by_ids := gd_own (N := ["_law_own", "_law_lot", "_law_here", "_law_one_here"]) F sc_law_v_amounts_by_ids (fun _ _ _ _ _ _ us hl => match us, hl with | [_, _], _ => rfl) (fun _ _ => rfl) fun f cdv A outer s0 H H0 E r dS dH s us i hr hR ok hv hp => by
  obtain ⟨vF, vA, hr1, rF, rA, dSt, dHd⟩ := id hR
  have same0 : ∀ {H1 : Hp}, S0.T H H1 → H1 r = some (.dK (ownF (hnd s.i) vF vA dS dH)) := fun t => S0.same t _ _ hr1
  obtain ⟨v0, rfl, h0⟩ := isL1 hv
  refine ⟨_, (pss_cons (psn 2 sc_law_v_amounts_by_ids.nd (pe_gd G_law_v_amounts hr (pa_cons (pe_dget (hu_of hr) (pv 0) pe_str (fun _ _ => rfl)) (pa_cons (pe_dget (hu_of hr) (pv 0) pe_str (fun _ _ => rfl)) pa_nil))))
    (pss_cons (ps_for PassesOwn.never rfl (pi_tup (pv 1)) (pgn 3 sc_law_v_amounts_by_ids.nd) (pss_one (psn 2 sc_law_v_amounts_by_ids.nd (pe_gd G_law_v_moved hr (pa_cons (pe_dget (hu_of hr) (pv 0) pe_str (fun _ _ => rfl)) (pa_cons (pv 2) (pa_cons (pe_dget (hu_of hr) (pe_dget (hu_of hr) (pv 0) pe_str (fun _ _ => rfl)) (pv 3) (fun _ _ => rfl)) pa_nil)))))))
    (pss_one (ps_ret (pv 2))))), ?_⟩
  refine gr_set (gv_call (ι := List Kd × List Int) (s.fs, s.line) (ga_two (gv_own (gv_val rfl) (fun H1 t => S0.same t _ _ hr1) o_fields rF) (gv_own (gv_val rfl) (fun H1 t => S0.same t _ _ hr1) o_first rA)) ⟨ok.fs, ok.line⟩) fun v1 H1 a1 hv1 => ?_
  refine gre_seq (gx_for (S := S0) (l := i) (gi_tup (enc := idD) (gv_var rfl (h0.to a1))) (fun j σ' H' => ∃ v u, σ' = [some (.ref r), some v0, some v, u] ∧ Rep H' v (amD (walkA s (i.take j)))) (fun H2 a2 => ⟨v1, none, rfl, Rep.mono a2.tups hv1⟩) fun j z x σ' H2 hz a2 hq hy => ?_) fun σ' H2 a2 hq => ?_
  · obtain ⟨H3, ⟨v, u, rfl, rv⟩, a3, s3⟩ := hq
    have rv := rv.mono a3.tups
    have hk := hp z (List.mem_of_getElem? hz)
    have a12 := a1.trans a2
    refine ⟨[some (.ref r), some v0, some v, some x], fun _ q => q, Gx.imp (gx_set (gv_call (ι := List Kd × List (List Int) × List (List Int)) (s.fs, walkA s (i.take j), lkD s.log z) (ga_three (gv_ownD (gv_val rfl) (fun H1 t => S0.same (a12.trans t) _ _ hr1) o_fields (rF.mono a12.tups)) (gv_vd rfl rv) (gv_dgetT (gv_own (gv_val rfl) (fun H1 t => S0.same (a12.trans t) _ _ hr1) o_steps rfl) (gv_vd rfl hy) (fun H4 t => dSt.same (S0.same (a12.trans t))) ok.log (ok.key hk) (lkD_eq hk))) ⟨ok.fs, walk_ok ok fun c hc => hp c (List.mem_of_mem_take hc), ok.am hk⟩).ge) fun σ'' H4 a4 ⟨v2, h2, e2⟩ => ⟨v2, some x, e2, ?_⟩⟩
    rw [walk_take hz]
    exact h2
  · obtain ⟨v, u, rfl, rv⟩ := hq
    rw [List.take_length] at rv
    exact gr_ret (gv_vd rfl rv)

end
end Ed

set_option maxHeartbeats 1000000
/-! EdMu: a set of addresses that may change; the promises of what changes. -/
namespace Ed
open PySem PySem.Spec PyProof.Rows L2
def SA (M : Addr → Prop) : Sys where
  M := M
  J := fun H => ∀ a, M a → ∃ o, H a = some o ∧ mutO o = true
  mt := fun H a j m => j a m
  loc := fun H H' j k a m => by
    obtain ⟨o, h, z⟩ := j a m
    exact ⟨o, (k a m).trans h, z⟩
section
variable {M M1 M2 : Addr → Prop} {H H' H1 H2 : Hp}
theorem SA.mono (a : (SA M1).T H H') (h : ∀ x, M1 x → M2 x) (j : (SA M2).J H) : (SA M2).T H H' := by
  refine ⟨j, fun x m => ?_, fun x o n e => a.k x o (fun z => n (h x z)) e⟩
  by_cases q : M1 x
  · exact a.j' x q
  · obtain ⟨o, e, z⟩ := j x m
    exact ⟨o, a.k x o q e, z⟩
theorem SA.put {p : Addr} {o : HO} (j : (SA M).J H) (m : M p) (z : mutO o = true) : (SA M).T H (upd H p o) := by
  refine ⟨j, fun x mx => ?_, fun x u n e => ?_⟩
  · by_cases q : x = p
    · exact ⟨o, by rw [q, upd_same], z⟩
    · rw [upd_ne q]
      exact j x mx
  · rw [upd_ne fun q => n (show M x by rw [q]; exact m)]
    exact e
theorem SA.ofSS {src : Addr} (a : (SS src).T H H') (m : M src) (j : (SA M).J H) : (SA M).T H H' := by
  refine ⟨j, fun x mx => ?_, fun x o n e => a.k x o (fun z => n (show M x from (show x = src from z) ▸ m)) e⟩
  by_cases q : x = src
  · obtain ⟨b, c, h, _⟩ := a.j'
    exact ⟨_, q ▸ h, rfl⟩
  · obtain ⟨o, e, z⟩ := j x mx
    exact ⟨o, a.k x o q e, z⟩
/-- what did not stand may have been made and changed -/
theorem SA.fresh {p : Addr} (a : (SA M).T H H1) (hp : H p = none) (b : (SA fun x => M x ∨ x = p).T H1 H2) : (SA M).T H H2 :=
  ⟨a.j, fun x m => b.j' x (.inl m), fun x o n e => b.k x o (fun z => z.elim n fun q => by rw [q, hp] at e; cases e) (a.k x o n e)⟩
end
theorem hasSA {src : Addr} {M : Addr → Prop} (m : M src) : True := trivial
/-- the source, within a set -/
def SSA (src : Addr) (M : Addr → Prop) : Sys where
  M := M
  J := fun H => (SA M).J H ∧ SrcOk src H ∧ M src
  mt := fun H a j m => j.1 a m
  loc := fun H H' j k => ⟨(SA M).loc H H' j.1 k, (SS src).loc H H' j.2.1 fun a e => k a ((show a = src from e) ▸ j.2.2), j.2.2⟩
theorem hasSSA {src : Addr} {M : Addr → Prop} (m : M src) : HasSrc src (SSA src M) :=
  ⟨fun H j => j.2.1, m, fun H H' j a => ⟨(SA.ofSS a m j.1).j', a.j', m⟩⟩
theorem SSA.to {src : Addr} {M : Addr → Prop} {H H' : Hp} (a : (SSA src M).T H H') : (SA M).T H H' := ⟨a.j.1, a.j'.1, a.k⟩
theorem SSA.of {src : Addr} {M : Addr → Prop} {H H' : Hp} (m : M src) (a : (SA M).T H H') (j : SrcOk src H) (j' : SrcOk src H') : (SSA src M).T H H' := ⟨⟨a.j, j, m⟩, ⟨a.j', j', m⟩, a.k⟩
/-! ### replicas and own dicts, when something changes -/
theorem RAt.ne {C : Addr} {H : Hp} {r dS dH : Addr} {s : RSt} (h : RAt C H r dS dH s) : r ≠ dS ∧ r ≠ dH := by
  obtain ⟨dx, vF, vA, h1, _, _, ⟨kvs, h4, _⟩, ⟨kvs', h5, _⟩⟩ := h
  exact ⟨fun e => (by rw [e, h4] at h1; cases h1), fun e => (by rw [e, h5] at h1; cases h1)⟩
theorem RAt.ned {C : Addr} {H : Hp} {r dS dH : Addr} {s : RSt} (h : RAt C H r dS dH s) : dS ≠ dH := by
  obtain ⟨dx, vF, vA, h1, _, _, ⟨kvs, h4, _⟩, ⟨kvs', h5, _⟩⟩ := h
  exact fun e => by rw [e, h5] at h4; cases h4
theorem OAt.ne {H : Hp} {r dS dH : Addr} {s : RSt} (h : OAt H r dS dH s) : r ≠ dS ∧ dS ≠ dH := by
  obtain ⟨vF, vA, h1, _, _, ⟨kvs, h4, _⟩, ⟨kvs', h5, _⟩⟩ := h
  exact ⟨fun e => (by rw [e, h4] at h1; cases h1), fun e => (by rw [e, h5] at h4; cases h4)⟩
theorem OAt.neH {H : Hp} {r dS dH : Addr} {s : RSt} (h : OAt H r dS dH s) : r ≠ dH := by
  obtain ⟨vF, vA, h1, _, _, _, ⟨kvs, h5, a⟩⟩ := h
  intro e
  rw [← e, h1] at h5
  have ek : ownF (hnd s.i) vF vA dS dH = kvs := HO.dK.inj (Option.some.inj h5)
  have v := a.v
  rw [← ek] at v
  cases z : s.hs with
  | nil => rw [z] at v; cases v
  | cons x l =>
    rw [z, List.map_cons] at v
    have v : Reps H (V.str (hnd s.i) :: [vF, vA, .ref dS, .ref dH]) (idsD x.2 :: l.map fun e => idsD e.2) := v
    cases v with
    | cons v1 _ =>
      unfold idsD at v1
      obtain ⟨_, _, q, _⟩ := Rep.inv v1
      cases q
theorem RAt.j {C : Addr} {H : Hp} {r dS dH : Addr} {s : RSt} (h : RAt C H r dS dH s) : (SA fun x => x = r ∨ x = dS ∨ x = dH).J H := fun a m => by
  obtain ⟨dx, vF, vA, h1, _, _, ⟨kvs, h4, _⟩, ⟨kvs', h5, _⟩⟩ := h
  rcases m with rfl | rfl | rfl
  · exact ⟨_, h1, rfl⟩
  · exact ⟨_, h4, rfl⟩
  · exact ⟨_, h5, rfl⟩
/-- d[c] = v on the steps' dict -/
theorem std_put {H : Hp} {d b : Addr} {log : Log} {fs : List Kd} {c : Nat} {a : Am} {v : V} (h : StD H d log) (ok : LogOk fs log) (few : log.length ≤ 100) (hc : c < 1200) (hv : Rep H v (amD a)) (hb : H b = some (.tup ((idK c).map kV))) {Q : Hp → Prop}
    (k : ∀ kvs, StD (upd H d (.dT kvs)) d (pt log c a) → Q (upd H d (.dT kvs))) : ∃ H4, DPut H d (.ref b) v H4 ∧ Q H4 := by
  obtain ⟨kvs, h1, h2⟩ := h
  refine ⟨_, DPut.t h1 hb (by rw [h2.length]; exact Nat.lt_of_le_of_lt few (by decide)), k _ ⟨_, upd_same, ?_⟩⟩
  refine (Asc.put (ok.inj hc) hv h2).mono ⟨fun b ys e => ?_, fun b o ys e => ?_⟩
  · rw [upd_ne fun q => by rw [q, h1] at e; cases e]
    exact e
  · rw [upd_ne fun q => by rw [q, h1] at e; cases e]
    exact e
theorem hdd_put {H : Hp} {d : Addr} {hs : Hds} {w : Str} {l : List Nat} {v : V} (h : HdD H d hs) (few : hs.length ≤ 100) (hv : Rep H v (idsD l)) {Q : Hp → Prop}
    (k : ∀ kvs, HdD (upd H d (.dK kvs)) d (pt hs w l) → Q (upd H d (.dK kvs))) : ∃ H4, DPut H d (.str w) v H4 ∧ Q H4 := by
  obtain ⟨kvs, h1, h2⟩ := h
  refine ⟨_, DPut.k (k := kS w) h1 (by rw [h2.length]; exact Nat.lt_of_le_of_lt few (by decide)), k _ ⟨_, upd_same, ?_⟩⟩
  refine (Asc.put kS_inj hv h2).mono ⟨fun b ys e => ?_, fun b o ys e => ?_⟩
  · rw [upd_ne fun q => by rw [q, h1] at e; cases e]
    exact e
  · rw [upd_ne fun q => by rw [q, h1] at e; cases e]
    exact e
/-- the id that is next -/
def nxt (s : RSt) : Nat := 400 * s.i + s.m
def edited (s : RSt) (lot : List Nat) (rec : List Int) : RSt := { s with log := pt s.log (nxt s) (stps s.fs (walkA s lot) (amOf s.fs rec)), m := s.m + 1 }
theorem ROk.nxt {s : RSt} (o : ROk s) : Ed.nxt s < 1200 ∧ Ed.nxt s / 400 = s.i ∧ Ed.nxt s % 400 = s.m := by
  have := o.i
  have := o.m
  unfold Ed.nxt
  omega
/-- the own edits counted -/
theorem own_count {s : RSt} (o : ROk s) : ((keys s.log).filter fun c => decide (c / 400 = s.i)).length = s.m := by
  have hm := o.m
  have hi := o.i
  have pm : ((keys s.log).filter fun c => decide (c / 400 = s.i)).Perm ((List.range s.m).map fun k => 400 * s.i + k) := by
    refine (List.perm_ext_iff_of_nodup (o.log.nd.filter _) ?_).mpr fun c => ?_
    · exact List.pairwise_map.mpr ((List.nodup_range (n := s.m)).imp fun {a b} ne e => ne (by omega))
    · rw [List.mem_filter, decide_eq_true_iff]
      constructor
      · rintro ⟨h1, h2⟩
        have hc := o.toRO.key h1
        refine List.mem_map.mpr ⟨c % 400, List.mem_range.mpr ((o.own (c % 400) (Nat.mod_lt _ (by decide))).mp ?_), by omega⟩
        have e : 400 * s.i + c % 400 = c := by omega
        rw [e]
        exact h1
      · intro h
        obtain ⟨k, hk, rfl⟩ := List.mem_map.mp h
        have hk := List.mem_range.mp hk
        exact ⟨(o.own k (by omega)).mpr hk, by omega⟩
  rw [pm.length_eq, List.length_map, List.length_range]
def takeL (log : Log) (p : Log) : Log := p.foldl (fun l e => pt l e.1 e.2) log
def hearL (hs : Hds) (h : Hds) : Hds := h.foldl (fun l e => pt l e.1 (both ((lk l e.1).getD []) e.2)) hs
/-- a packet: entries that rise -/
structure PkOk (fs : List Kd) (p : Log) : Prop where
  id : ∀ e ∈ p, e.1 < 1200
  am : ∀ e ∈ p, OkA fs e.2
  up : (p.map (·.1)).Pairwise (· < ·)
theorem takeL_take {log p : Log} {i : Nat} {e : Nat × Am} (h : p[i]? = some e) : takeL log (p.take (i + 1)) = pt (takeL log (p.take i)) e.1 e.2 := by
  rw [List.take_add_one, h]
  simp [takeL]
theorem hearL_take {hs h : Hds} {i : Nat} {e : Str × List Nat} (q : h[i]? = some e) : hearL hs (h.take (i + 1)) = pt (hearL hs (h.take i)) e.1 (both ((lk (hearL hs (h.take i)) e.1).getD []) e.2) := by
  rw [List.take_add_one, q]
  simp [hearL]
theorem takeL_ok {fs : List Kd} {p : Log} : ∀ {log : Log}, LogOk fs log → (∀ e ∈ p, e.1 < 1200) → (∀ e ∈ p, OkA fs e.2) → LogOk fs (takeL log p) := by
  induction p with
  | nil => intro log o _ _; exact o
  | cons e p ih =>
    intro log o h1 h2
    exact ih (o.put (h1 e (by simp)) (h2 e (by simp))) (fun x hx => h1 x (by simp [hx])) fun x hx => h2 x (by simp [hx])
theorem pt_len {α β : Type} [DecidableEq α] {l : List (α × β)} {c : α} {b : β} : (pt l c b).length ≤ l.length + 1 := by
  unfold pt
  split
  · rw [List.length_map]; omega
  · rw [List.length_append]; exact Nat.le_refl _
theorem takeL_len {p : Log} : ∀ {log : Log}, (takeL log p).length ≤ log.length + p.length := by
  induction p with
  | nil => intro log; exact Nat.le_refl _
  | cons e p ih =>
    intro log
    have h1 := ih (log := pt log e.1 e.2)
    have h2 := pt_len (l := log) (c := e.1) (b := e.2)
    rw [List.length_cons]
    show (takeL (pt log e.1 e.2) p).length ≤ _
    omega
end Ed

set_option maxHeartbeats 1000000
/-! EdD8: what changes replicas and own dicts. -/
namespace Ed
open PySem PySem.Spec PyProof.Rows L2
section
variable {P : Program} {w : World} {K : PySem.W.Frag} {mg : Str → Option Value} {base : Heap}
variable {C : Addr}
def sp_Replica_init (C : Addr) : Sp := fun vs H Q _ => ∃ (r dx : Addr) (i : Nat) (v1 v2 : V) (fs : List Kd) (line : List Int), vs = [.ref r, .str (hnd i), v1, v2] ∧ H r = some (.ins C dx []) ∧ Rep H v1 (fieldsD fs) ∧ Rep H v2 (tupI line) ∧ OkF fs ∧ OkR fs line ∧
  ∀ H' dS dH, (SA fun x => x = r).T H H' → H dS = none → H dH = none → RAt C H' r dS dH ⟨i, fs, line, [], 0, []⟩ → Q .non H'
def sp_Replica_edit (C : Addr) : Sp := fun vs H Q _ => ∃ (r dS dH : Addr) (s : RSt) (v1 v2 : V) (lot : List Nat) (rec : List Int), vs = [.ref r, v1, v2] ∧ RAt C H r dS dH s ∧ ROk s ∧ s.m < 100 ∧ s.log.length < 60 ∧ Rep H v1 (idsD lot) ∧ Lot lot ∧ (∀ c ∈ lot, c ∈ keys s.log) ∧ Rep H v2 (tupI rec) ∧ OkR s.fs rec ∧
  ∀ v H', (SA fun x => x = r ∨ x = dS).T H H' → RAt C H' r dS dH (edited s lot rec) → Rep H' v (idD (nxt s)) → Q v H'
def sp_Replica_set_head (C : Addr) : Sp := fun vs H Q _ => ∃ (r dS dH : Addr) (s : RSt) (x : Str) (v : V) (lot : List Nat), vs = [.ref r, .str x, v] ∧ RAt C H r dS dH s ∧ RO s ∧ s.hs.length ≤ 50 ∧ okName x = true ∧ Rep H v (idsD lot) ∧ Lot lot ∧ (∀ c ∈ lot, c ∈ keys s.log) ∧
  ∀ H', (SA fun x => x = dH).T H H' → RAt C H' r dS dH { s with hs := pt s.hs x lot } → Q .non H'
def sp_law_v_replica : Sp := fun vs H Q _ => ∃ (i : Nat) (v1 v2 : V) (fs : List Kd) (line : List Int), vs = [.str (hnd i), v1, v2] ∧ Rep H v1 (fieldsD fs) ∧ Rep H v2 (tupI line) ∧
  ∀ o H' dS dH, Same H H' → H o = none → H dS = none → H dH = none → OAt H' o dS dH ⟨i, fs, line, [], 0, []⟩ → Q (.ref o) H'
def sp_law_v_edited_here : Sp := fun vs H Q _ => ∃ (r dS dH : Addr) (s : RSt) (v1 v2 : V) (lot : List Nat) (rec : List Int), vs = [.ref r, v1, v2] ∧ OAt H r dS dH s ∧ ROk s ∧ s.m < 100 ∧ s.log.length < 60 ∧ Rep H v1 (idsD lot) ∧ (∀ c ∈ lot, c ∈ keys s.log) ∧ Rep H v2 (tupI rec) ∧ OkR s.fs rec ∧
  ∀ v H', (SA fun x => x = dS).T H H' → OAt H' r dS dH (edited s lot rec) → Rep H' v (idD (nxt s)) → Q v H'
def sp_law_v_packet : Sp := fun vs H Q _ => ∃ (r dS dH l : Addr) (s : RSt) (xs : List V) (ids : List Nat), vs = [.ref r, .ref l] ∧ OAt H r dS dH s ∧ RO s ∧ H l = some (.lst xs) ∧ Reps H xs (ids.map idD) ∧ (∀ c ∈ ids, c < 1200) ∧ ∀ v H', Same H H' → Rep H' v (packD (pkt s ids)) → Q v H'
def sp_law_v_taken : Sp := fun vs H Q _ => ∃ (r dS dH : Addr) (s : RSt) (v : V) (p : Log), vs = [.ref r, v] ∧ OAt H r dS dH s ∧ RO s ∧ Rep H v (packD p) ∧ PkOk s.fs p ∧ p.length ≤ 40 ∧
  ∀ v H', (SA fun x => x = dS).T H H' → OAt H' r dS dH { s with log := takeL s.log p } → Rep H' v (idsD ((p.filter fun e => decide (e.1 ∉ keys s.log)).map (·.1))) → Q v H'
def sp_law_v_heard : Sp := fun vs H Q _ => ∃ (r dS dH : Addr) (s : RSt) (v : V) (h : Hds), vs = [.ref r, v] ∧ OAt H r dS dH s ∧ s.hs.length ≤ 50 ∧ h.length ≤ 40 ∧ Rep H v (headsD h) ∧ (∀ e ∈ h, Lot e.2) ∧ (∀ e ∈ s.hs, Lot e.2) ∧
  ∀ H', (SA fun x => x = dH).T H H' → OAt H' r dS dH { s with hs := hearL s.hs h } → Q .non H'
/-- a field is set -/
theorem fld_set {σ : L2.St} {H : Hp} {tv : TE} {R : V → Hp → Prop} {r dx : Addr} {fs : List (Str × V)} {f : Str} {D : Ends} (hv : Ge S0 tv σ H R) (e0 : σ[0]? = some (some (.ref r))) (hr : H r = some (.ins C dx fs)) (c : Cls K C) (n : NoAttr K C f) (l : fs.length < 1000)
    (k : ∀ y H1, S0.T H H1 → R y H1 → D.nx σ (upd H1 r (.ins C dx (putF f y fs)))) : sFld K (tVar 0) tv f D σ H :=
  hv H S0.r _ fun y H1 a1 ry => ⟨.ref r, e0, r, C, dx, fs, rfl, S0.same a1 _ _ hr, c, n, l, k y H1 a1 ry⟩
/-- a field is set, of what may change -/
theorem fld_new {σ : L2.St} {H : Hp} {tv : TE} {R : V → Hp → Prop} {r dx : Addr} {fs : List (Str × V)} {f : Str} {D : Ends} (hv : Ge S0 tv σ H R) (e0 : σ[0]? = some (some (.ref r))) (hr : H r = some (.ins C dx fs)) (c : Cls K C) (n : NoAttr K C f) (l : fs.length < 1000)
    (k : ∀ y H1 H', S0.T H H1 → R y H1 → (SA fun x => x = r).T H1 H' → H' r = some (.ins C dx (putF f y fs)) → D.nx σ H') : sFld K (tVar 0) tv f D σ H :=
  fld_set hv e0 hr c n l fun y H1 a1 ry => k y H1 _ a1 ry (SA.put (fun x m => ⟨_, (show x = r from m) ▸ S0.same a1 _ _ hr, rfl⟩) rfl rfl) upd_same
theorem ge_dnewT {σ : L2.St} {H : Hp} : Ge S0 tDNewT σ H fun v H' => ∃ p, v = .ref p ∧ H p = none ∧ H' p = some (.dT []) := fun H1 a Q k p hp => k _ _ (.new a.j' hp) ⟨p, rfl, a.free hp, upd_same⟩
theorem ge_dnewK {σ : L2.St} {H : Hp} : Ge S0 tDNewK σ H fun v H' => ∃ p, v = .ref p ∧ H p = none ∧ H' p = some (.dK []) := fun H1 a Q k p hp => k _ _ (.new a.j' hp) ⟨p, rfl, a.free hp, upd_same⟩
theorem SA.ins {r : Addr} {H H1 : Hp} {C dx : Addr} {l : List (Str × V)} {M : Addr → Prop} (a : (SA M).T H H1) (b : S0.T H1 H2) (m : M r) : (SA M).T H (upd H2 r (.ins C dx l)) :=
  have t := a.trans (Sys.T.of_same (S := SA M) a.j' (S0.same b))
  t.trans (SA.put t.j' m rfl)

theorem sc_Replica_init : FnScope ["self", "hand", "fields", "record"] ["self", "hand", "fields", "record"] (defScope s_Replica_init) := ⟨rfl, rfl, rfl, by decide +kernel, rfl, by decide +kernel, by decide +kernel⟩
theorem ok_Replica_init (T : Tx mg) (cl : RCl K C) (F : DfC K mg "Replica" "Replica.__init__" C s_Replica_init) (G_want_name : Gd P w K mg base "want_name" 2 sp_want_name) (G_made_fields : Gd P w K mg base "made_fields" 9 sp_made_fields) (G_want_record : Gd P w K mg base "want_record" 5 sp_want_record) (G_amounts_of : Gd P w K mg base "amounts_of" 1 sp_amounts_of) : Mc P w K mg base "Replica" C 10 (sp_Replica_init C) := mc_of (N := ["self", "hand", "fields", "record"]) F sc_Replica_init (fun _ _ _ _ _ _ us hl => match us, hl with | [_, _, _, _], _ => rfl) (fun vs H Q E h => by
  obtain ⟨r, dx, i, v1, v2, fs, line, rfl, _⟩ := h
  rfl) fun f cdv A outer s0 H vs Q E hr hsp => by
  obtain ⟨r, dx, i, v1, v2, fs, line, rfl, h0, rv1, rv2, okf, okr, k⟩ := hsp
  refine ⟨_, (pss_cons (ps_expr (pe_gd G_want_name hr (pa_cons (pv 1) pa_nil)))
    (pss_cons (ps_fld (pv 0) (pv 1) rfl)
    (pss_cons (ps_fld (pv 0) (pe_gd G_made_fields hr (pa_cons (pv 2) pa_nil)) rfl)
    (pss_cons (ps_expr (pe_gd G_want_record hr (pa_cons (pv 2) (pa_cons (pv 3) pa_nil))))
    (pss_cons (ps_fld (pv 0) (pe_gd G_amounts_of hr (pa_cons (pv 2) (pa_cons (pv 3) pa_nil))) rfl)
    (pss_cons (ps_fld (pv 0) pe_dnewT rfl)
    (pss_cons (ps_fld (pv 0) pe_int rfl)
    (pss_one (ps_fld (pv 0) pe_dnewK rfl))))))))), ?_⟩
  have j0 : (SA fun x => x = r).J H := fun x m => ⟨_, (show x = r from m) ▸ h0, rfl⟩
  refine gn_drop (S := S0) (gv_call (hnd i) (ga_one (gv_val rfl)) (hnd_name i)) H S0.r _ fun H1 a1 => ?_
  dsimp only
  have up : ∀ {H1 H2 : Hp}, (SA fun x => x = r).J H1 → S0.T H1 H2 → (SA fun x => x = r).T H1 H2 := fun j a => .of_same j (S0.same a)
  have t1 := up j0 a1
  refine fld_new (gv_val (i := 1) (v := .str (hnd i)) rfl).ge rfl (S0.same a1 _ _ h0) cl.c cl.hand (by decide) fun y H2 H3 a2 e b2 at3 => ?_
  have e : y = .str (hnd i) := e
  subst e
  have at3 : H3 r = some (.ins C dx [(("hand" : Str), V.str (hnd i))]) := at3
  have t3 := t1.trans ((up t1.j' a2).trans b2)
  dsimp only
  refine fld_new (gv_call fs (ga_one (gv_vd (i := 2) rfl (rv1.mono t3.tups))) okf).ge rfl at3 cl.c cl.fields (by show 1 < 1000; decide) fun vF H4 H5 a4 rF b4 at5 => ?_
  have rF : Rep H4 vF (fieldsD fs) := rF
  have rF := rF.mono b4.tups
  have at5 : H5 r = some (.ins C dx [(("hand" : Str), V.str (hnd i)), (("fields" : Str), vF)]) := at5
  have t5 := t3.trans ((up t3.j' a4).trans b4)
  dsimp only
  refine gn_drop (S := S0) (gv_call (fs, line) (ga_two (gv_vd (i := 2) rfl (rv1.mono t5.tups)) (gv_vd (i := 3) rfl (rv2.mono t5.tups))) ⟨okf, okr⟩) H5 S0.r _ fun H6 a6 => ?_
  have t6 := t5.trans (up t5.j' a6)
  dsimp only
  refine fld_new (gv_call (fs, line) (ga_two (gv_vd (i := 2) rfl (rv1.mono t6.tups)) (gv_vd (i := 3) rfl (rv2.mono t6.tups))) ⟨okf, okr⟩).ge rfl (S0.same a6 _ _ at5) cl.c cl.first (by show 2 < 1000; decide) fun vA H7 H8 a7 rA b7 at8 => ?_
  have rA : Rep H7 vA (amD (amOf fs line)) := rA
  have rA := rA.mono b7.tups
  have at8 : H8 r = some (.ins C dx [(("hand" : Str), V.str (hnd i)), (("fields" : Str), vF), (("first" : Str), vA)]) := at8
  have t8 := t6.trans ((up t6.j' a7).trans b7)
  have rF := ((rF.mono a6.tups).mono a7.tups).mono b7.tups
  dsimp only
  refine fld_new ge_dnewT rfl at8 cl.c cl.steps (by show 3 < 1000; decide) fun y H9 H10 a9 ⟨dS, ey, hS, eS⟩ b9 at10 => ?_
  subst ey
  have at10 : H10 r = some (.ins C dx [(("hand" : Str), V.str (hnd i)), (("fields" : Str), vF), (("first" : Str), vA), (("steps" : Str), V.ref dS)]) := at10
  have t10 := t8.trans ((up t8.j' a9).trans b9)
  have rF := (rF.mono a9.tups).mono b9.tups
  have rA := (rA.mono a9.tups).mono b9.tups
  have nS : dS ≠ r := fun e => by rw [e, at8] at hS; cases hS
  have eS := b9.k _ _ (fun m => nS m) eS
  dsimp only
  refine fld_new (gv_int (i := 0)).ge rfl at10 cl.c cl.made (by show 4 < 1000; decide) fun y H11 H12 a11 ey b11 at12 => ?_
  have ey : y = .int 0 := ey
  subst ey
  have at12 : H12 r = some (.ins C dx [(("hand" : Str), V.str (hnd i)), (("fields" : Str), vF), (("first" : Str), vA), (("steps" : Str), V.ref dS), (("made" : Str), V.int 0)]) := at12
  have t12 := t10.trans ((up t10.j' a11).trans b11)
  have rF := (rF.mono a11.tups).mono b11.tups
  have rA := (rA.mono a11.tups).mono b11.tups
  have eS := b11.k _ _ (fun m => nS m) (S0.same a11 _ _ eS)
  dsimp only
  refine fld_new ge_dnewK rfl at12 cl.c cl.by_name (by show 5 < 1000; decide) fun y H13 H14 a13 ⟨dH, ey, hH, eH⟩ b13 at14 => ?_
  subst ey
  have t14 := t12.trans ((up t12.j' a13).trans b13)
  have nH : dH ≠ r := fun e => by rw [e, at12] at hH; cases hH
  have eH := b13.k _ _ (fun m => nH m) eH
  have eS := b13.k _ _ (fun m => nS m) (S0.same a13 _ _ eS)
  exact k H14 dS dH t14 (t8.free hS) (t12.free hH) ⟨dx, vF, vA, at14, (rF.mono a13.tups).mono b13.tups, (rA.mono a13.tups).mono b13.tups, ⟨[], eS, .nil⟩, ⟨[], eH, .nil⟩⟩


theorem sc_Replica_edit : FnScope ["self", "lot", "record", "told"] ["self", "lot", "record"] (defScope s_Replica_edit) := ⟨rfl, rfl, rfl, by decide +kernel, rfl, by decide +kernel, by decide +kernel⟩
theorem ok_Replica_edit (T : Tx mg) (cl : RCl K C) (F : DfM K C "edit" "Replica.edit" s_Replica_edit) (G_want_record : Gd P w K mg base "want_record" 5 sp_want_record) (G_amounts_of : Gd P w K mg base "amounts_of" 1 sp_amounts_of) (G_steps_between : Gd P w K mg base "steps_between" 2 sp_steps_between) (M_Replica_want_lot : Md P w K mg base C "want_lot" 7 (sp_Replica_want_lot C)) (M_Replica_amounts_at : Md P w K mg base C "amounts_at" 3 (sp_Replica_amounts_at C)) : Md P w K mg base C "edit" 8 (sp_Replica_edit C) := md_of (N := ["self", "lot", "record", "told"]) cl.c F sc_Replica_edit (fun _ _ _ _ _ _ us hl => match us, hl with | [_, _, _], _ => rfl) (fun vs H Q E h => by
  obtain ⟨r, dS, dH, s, v1, v2, lot, rec, rfl, _⟩ := h
  rfl) fun f cdv A outer s0 H vs Q E hr hsp => by
  obtain ⟨r, dS, dH, s, v1, v2, lot, rec, rfl, hR, ok, hm, few, rv1, olot, known, rv2, orec, k⟩ := hsp
  obtain ⟨dx, vF, vA, hr1, rF, rA, dSt, dHd⟩ := id hR
  refine ⟨_, (pss_cons (ps_expr (pe_md M_Replica_want_lot hr (pv 0) (pa_cons (pv 1) pa_nil)))
    (pss_cons (ps_expr (pe_gd G_want_record hr (pa_cons (pe_fld (pv 0) rfl) (pa_cons (pv 2) pa_nil))))
    (pss_cons (ps_if (pt_cmpR op_eq (pe_fld (pv 0) rfl) (pe_gi T.MOST_EDITS_replicas) (nomark _)) pss_never pss_nil)
    (pss_cons (psn 3 sc_Replica_edit.nd (pe_tup (pa_cons (pe_fld (pv 0) rfl) (pa_cons (pe_fld (pv 0) rfl) pa_nil))))
    (pss_cons (ps_dput (hu_of hr) (pe_fld (pv 0) rfl) (pv 3) (pe_gd G_steps_between hr (pa_cons (pe_fld (pv 0) rfl) (pa_cons (pe_md M_Replica_amounts_at hr (pv 0) (pa_cons (pv 1) pa_nil)) (pa_cons (pe_gd G_amounts_of hr (pa_cons (pe_fld (pv 0) rfl) (pa_cons (pv 2) pa_nil))) pa_nil)))) rfl)
    (pss_cons (ps_fldaug (pv 0) pe_int in_add)
    (pss_one (ps_ret (pv 3))))))))), ?_⟩
  have jS : (SA fun x => x = r ∨ x = dS).J H := fun x m => hR.j x (m.elim .inl fun e => .inr (.inl e))
  have o := ok.toRO
  have nx := ok.nxt
  refine gn_drop (S := S0) (gv_meth lot (gv_val rfl) (fun H1 t => hR.same (S0.same t)) (ga_one (gv_vd (i := 1) rfl rv1)) o ⟨olot, known⟩) H S0.r _ fun H1 a1 => ?_
  have a1' := S0.same a1
  dsimp only
  refine gn_drop (S := S0) (gv_call (s.fs, rec) (ga_two (gv_fldD (gv_val rfl) (fun H2 t => S0.same (a1.trans t) _ _ hr1) cl.c cl.fields l_fields (rF.mono a1.tups)) (gv_vd (i := 2) rfl (rv2.mono a1.tups))) ⟨o.fs, orec⟩) H1 S0.r _ fun H2 a2 => ?_
  have a2 := a1.trans a2
  dsimp only
  have gm : ∀ {σ : L2.St} {H3 : Hp}, σ[0]? = some (some (.ref r)) → S0.T H H3 → Gv S0 (tFld K (tVar 0) "made") σ H3 (.val (.int (s.m : Int))) := fun e t => gv_fld (gv_val e) (fun H4 t2 => S0.same (t.trans t2) _ _ hr1) cl.c cl.made l_made rfl
  refine gn_skip (S := S0) ((gt_test (gv_op (gm rfl a2) gv_int (rg_eq rfl))).cast (decide_eq_false ?_)) H2 S0.r _ fun H3 a3 => ?_
  · intro e
    have : (s.m : Int) = 400 := V.int.inj e
    omega
  have a3 := a2.trans a3
  dsimp only
  refine gx_set (S := S0) (Gv.ge (o := .dat (idD (nxt s))) ((gv_tup (ds := [.str (hnd s.i), .int (s.m : Int)]) (ga_two (Gv.str_dat (gv_fld (o := .val (.str (hnd s.i))) (gv_val rfl) (fun H4 t => S0.same (a3.trans t) _ _ hr1) cl.c cl.hand l_hand rfl)) (Gv.int_dat (gm rfl a3))) (by show 2 ≤ 100000; decide)).cast ?_)) H3 S0.r _ ?_
  · rw [idD, nx.2.1, nx.2.2]
  rintro _ H4 a4 ⟨vt, rt, rfl⟩
  have a4 := a3.trans a4
  have rt : Rep H4 vt (idD (nxt s)) := rt
  dsimp only
  have gF : ∀ {σ : L2.St}, σ[0]? = some (some (.ref r)) → Gv S0 (tFld K (tVar 0) "fields") σ H4 (.dat (fieldsD s.fs)) := fun e => gv_fldD (gv_val e) (fun H5 t2 => S0.same (a4.trans t2) _ _ hr1) cl.c cl.fields l_fields (rF.mono a4.tups)
  refine Gv.fin (S := S0) (gv_call (ι := List Kd × List (List Int) × List (List Int)) (s.fs, walkA s lot, amOf s.fs rec) (ga_three (gF rfl) (gv_meth (args := fun _ l => [.dat (idsD l)]) (pre := fun s l => ∀ c ∈ l, c ∈ keys s.log) (res := fun s l => .dat (amD (walkA s l))) lot (gv_val rfl) (fun H5 t => hR.same (S0.same (a4.trans t))) (ga_one (gv_vd (i := 1) rfl (rv1.mono a4.tups))) o known) (gv_call (ι := List Kd × List Int) (s.fs, rec) (ga_two (gF rfl) (gv_vd (i := 2) rfl (rv2.mono a4.tups))) ⟨o.fs, orec⟩)) ⟨o.fs, walk_ok o known, amOf_ok o.fs orec⟩) trivial fun v H5 a5 rv => ?_
  have rv : Rep H5 v (amD (stps s.fs (walkA s lot) (amOf s.fs rec))) := rv
  have a45 := a5
  have a5 := a4.trans a5
  refine Gv.fin (S := S0) (gv_fld (o := .val (.ref dS)) (gv_val (σ := [some (.ref r), some v1, some v2, some vt]) (i := 0) rfl) (fun H6 t2 => S0.same (a5.trans t2) _ _ hr1) cl.c cl.steps l_steps rfl) trivial fun v' H6 a6 ev => ?_
  have ev : v' = .ref dS := ev
  subst ev
  have a56 := a6
  have a6 := a5.trans a6
  obtain ⟨b, rfl, hb⟩ := id_at ((rt.mono a45.tups).mono a56.tups)
  refine ⟨_, rfl, ?_⟩
  obtain ⟨H7, dp, ⟨kvs, e7⟩, st7⟩ := std_put (Q := fun H7 => (∃ kvs, H7 = upd H6 dS (.dT kvs)) ∧ StD H7 dS (pt s.log (nxt s) (stps s.fs (walkA s lot) (amOf s.fs rec)))) (dSt.same (S0.same a6)) o.log (by omega) nx.1 (rv.mono a56.tups) hb fun kvs st => ⟨⟨kvs, rfl⟩, st⟩
  refine ⟨dS, H7, rfl, dp, ?_⟩
  have t6 := Sys.T.of_same jS (S0.same a6)
  have t7 : (SA fun x => x = r ∨ x = dS).T H6 H7 := by rw [e7]; exact SA.put t6.j' (.inr rfl) rfl
  have ne := hR.ne
  have nd := hR.ned
  have at7 : H7 r = some (.ins C dx (insF (hnd s.i) vF vA dS s.m dH)) := by rw [e7, upd_ne ne.1]; exact S0.same a6 _ _ hr1
  dsimp only
  refine ⟨.ref r, rfl, r, C, dx, _, _, rfl, at7, cl.c, cl.made, l_made, _, 1, rfl, rfl, dx, _, at7, by show 6 < 1000; decide, ?_⟩
  have e8 : putF "made" (V.int ((s.m : Int) + 1)) (insF (hnd s.i) vF vA dS s.m dH) = insF (hnd s.i) vF vA dS (s.m + 1) dH := rfl
  rw [e8]
  have t8 : (SA fun x => x = r ∨ x = dS).T H7 (upd H7 r (.ins C dx (insF (hnd s.i) vF vA dS (s.m + 1) dH))) := SA.put t7.j' (.inl rfl) rfl
  have t68 := t7.trans t8
  have rt8 := ((rt.mono a45.tups).mono a56.tups).mono t68.tups
  obtain ⟨kv2, g1, g2⟩ := st7
  refine ⟨_, rfl, k _ _ (t6.trans t68) ⟨dx, vF, vA, upd_same, (rF.mono a6.tups).mono t68.tups, (rA.mono a6.tups).mono t68.tups, ⟨kv2, by rw [upd_ne ne.1.symm]; exact g1, g2.mono t8.tups⟩, (dHd.same (S0.same a6)).to t68 (fun m => m.elim (fun e => ne.2 e.symm) fun e => nd e.symm)⟩ rt8⟩

theorem sc_Replica_set_head : FnScope ["self", "name", "lot"] ["self", "name", "lot"] (defScope s_Replica_set_head) := ⟨rfl, rfl, rfl, by decide +kernel, rfl, by decide +kernel, by decide +kernel⟩
theorem ok_Replica_set_head (T : Tx mg) (cl : RCl K C) (F : DfM K C "set_head" "Replica.set_head" s_Replica_set_head) (G_want_name : Gd P w K mg base "want_name" 2 sp_want_name) (M_Replica_want_lot : Md P w K mg base C "want_lot" 7 (sp_Replica_want_lot C)) : Md P w K mg base C "set_head" 8 (sp_Replica_set_head C) := md_of (N := ["self", "name", "lot"]) cl.c F sc_Replica_set_head (fun _ _ _ _ _ _ us hl => match us, hl with | [_, _, _], _ => rfl) (fun vs H Q E h => by
  obtain ⟨r, dS, dH, s, x, v, lot, rfl, _⟩ := h
  rfl) fun f cdv A outer s0 H vs Q E hr hsp => by
  obtain ⟨r, dS, dH, s, x, v, lot, rfl, hR, o, few, hx, rv, olot, known, k⟩ := hsp
  obtain ⟨dx, vF, vA, hr1, rF, rA, dSt, dHd⟩ := id hR
  refine ⟨_, (pss_cons (ps_expr (pe_gd G_want_name hr (pa_cons (pv 1) pa_nil)))
    (pss_cons (ps_expr (pe_md M_Replica_want_lot hr (pv 0) (pa_cons (pv 2) pa_nil)))
    (pss_one (ps_dput (hu_of hr) (pe_fld (pv 0) rfl) (pv 1) (pv 2) rfl)))), ?_⟩
  have jS : (SA fun x => x = dH).J H := fun x m => hR.j x (.inr (.inr m))
  refine gn_drop (S := S0) (gv_call x (ga_one (gv_val (i := 1) (v := .str x) rfl)) hx) H S0.r _ fun H1 a1 => ?_
  dsimp only
  refine gn_drop (S := S0) (gv_meth lot (gv_val rfl) (fun H2 t => hR.same (S0.same (a1.trans t))) (ga_one (gv_vd (i := 2) rfl (rv.mono a1.tups))) o ⟨olot, known⟩) H1 S0.r _ fun H2 a2 => ?_
  have a2 := a1.trans a2
  dsimp only
  refine ⟨v, rfl, Gv.fin (S := S0) (gv_fld (o := .val (.ref dH)) (gv_val (σ := [some (.ref r), some (.str x), some v]) (i := 0) rfl) (fun H3 t2 => S0.same (a2.trans t2) _ _ hr1) cl.c cl.by_name l_by_name rfl) trivial fun v' H3 a3 ev => ?_⟩
  have ev : v' = .ref dH := ev
  subst ev
  have a3 := a2.trans a3
  refine ⟨_, rfl, ?_⟩
  obtain ⟨H7, dp, ⟨kvs, e7⟩, st7⟩ := hdd_put (Q := fun H7 => (∃ kvs, H7 = upd H3 dH (.dK kvs)) ∧ HdD H7 dH (pt s.hs x lot)) (w := x) (dHd.same (S0.same a3)) (by omega) (rv.mono a3.tups) fun kvs st => ⟨⟨kvs, rfl⟩, st⟩
  have t3 := Sys.T.of_same jS (S0.same a3)
  have t7 : (SA fun x => x = dH).T H3 H7 := by rw [e7]; exact SA.put t3.j' rfl rfl
  have ne := hR.ne
  refine ⟨dH, H7, rfl, dp, k H7 (t3.trans t7) ⟨dx, vF, vA, t7.k _ _ ne.2 (S0.same a3 _ _ hr1), (rF.mono a3.tups).mono t7.tups, (rA.mono a3.tups).mono t7.tups, (dSt.same (S0.same a3)).to t7 hR.ned, st7⟩⟩

theorem sc_law_v_edited_here : FnScope ["_law_own", "_law_lot", "_law_line", "_law_fresh", "_law_steps", "_law_one_here"] ["_law_own", "_law_lot", "_law_line"] (defScope s_law_v_edited_here) := ⟨rfl, rfl, rfl, by decide +kernel, rfl, by decide +kernel, by decide +kernel⟩
theorem ok_law_v_edited_here (T : Tx mg) (F : DfD K mg "_law_v_edited_here" s_law_v_edited_here) (G_law_v_amounts_by_ids : Gd P w K mg base "_law_v_amounts_by_ids" 3 sp_law_v_amounts_by_ids) (G_law_v_amounts : Gd P w K mg base "_law_v_amounts" 1 sp_law_v_amounts) (G_law_v_steps : Gd P w K mg base "_law_v_steps" 2 sp_law_v_steps) : Gd P w K mg base "_law_v_edited_here" 4 sp_law_v_edited_here := gd_of (N := ["_law_own", "_law_lot", "_law_line", "_law_fresh", "_law_steps", "_law_one_here"]) F sc_law_v_edited_here (fun _ _ _ _ _ _ us hl => match us, hl with | [_, _, _], _ => rfl) (fun vs H Q E h => by
  obtain ⟨r, dS, dH, s, v1, v2, lot, rec, rfl, _⟩ := h
  rfl) fun f cdv A outer s0 H vs Q E hr hsp => by
  obtain ⟨r, dS, dH, s, v1, v2, lot, rec, rfl, hR, ok, hm, few, rv1, known, rv2, orec, k⟩ := hsp
  obtain ⟨vF, vA, hr1, rF, rA, dSt, dHd⟩ := id hR
  refine ⟨_, (pss_cons (psn 3 sc_law_v_edited_here.nd (pe_tup (pa_cons (pe_dget (hu_of hr) (pv 0) pe_str (fun _ _ => rfl)) (pa_cons (pe_cb call_len_seq T.len boot_len (pa_cons (pe_lock (pe_lc (own := [("_law_one_here", 5)]) (g := (gName 5)) (tt := (tTest (tOp _ (tOp (rIxT K) (tVar 5) (tC _)) (tDGet (tVar 0) (tC _))))) (te := (tVar 5)) rfl sc_law_v_edited_here.nd (pi_keys (pe_dget (hu_of hr) (pv 0) pe_str (fun _ _ => rfl))) (blkOk_by (N := ["_law_own", "_law_lot", "_law_line", "_law_fresh", "_law_steps", "_law_one_here"]) (sc := defScope s_law_v_edited_here) (by decide +kernel)) (fun _ _ _ _ _ => (pgn 5 sc_law_v_edited_here.nd)) (fun _ _ _ _ _ => (pts_one (pt_cmpR op_eq (pe_ix ix_tup (pv 5) pe_int (fun _ _ => rfl)) (pe_dget (hu_of hr) (pv 0) pe_str (fun _ _ => rfl)) (nomark _)))) (fun _ _ _ _ _ => (pv 5)))) pa_nil)) pa_nil))))
    (pss_cons (psn 4 sc_law_v_edited_here.nd (pe_dget (hu_of hr) (pv 0) pe_str (fun _ _ => rfl)))
    (pss_cons (ps_dput (hu_of hr) (pv 4) (pv 3) (pe_gd G_law_v_steps hr (pa_cons (pe_dget (hu_of hr) (pv 0) pe_str (fun _ _ => rfl)) (pa_cons (pe_gd G_law_v_amounts_by_ids hr (pa_cons (pv 0) (pa_cons (pv 1) pa_nil))) (pa_cons (pe_gd G_law_v_amounts hr (pa_cons (pe_dget (hu_of hr) (pv 0) pe_str (fun _ _ => rfl)) (pa_cons (pv 2) pa_nil))) pa_nil)))) rfl)
    (pss_one (ps_ret (pv 3)))))), ?_⟩
  have nd := hR.ne
  have jS : (SA fun x => x = dS).J H := fun x m => by
    obtain ⟨kvs, h1, _⟩ := dSt
    exact ⟨_, (show x = dS from m) ▸ h1, rfl⟩
  have o := ok.toRO
  have nx := ok.nxt
  obtain ⟨kvs, hd, ha⟩ := id dSt
  have lk' : kvs.map (·.1) = (keys s.log).map idK := by rw [ha.k, keys, List.map_map]; rfl
  have gh : ∀ {σ : L2.St} {H1 : Hp}, σ[0]? = some (some (.ref r)) → H1 r = some (.dK (ownF (hnd s.i) vF vA dS dH)) → Gv S0 (tDGet (tVar 0) (tC (.str "hand"))) σ H1 (.val (.str (hnd s.i))) := fun e q => gv_own (gv_val e) (fun H2 t => S0.same t _ _ q) o_hand rfl
  have cnt : GvL S0 (tLockE (tLc (iKeys (tDGet (tVar 0) (tC (.str "steps")))) (gName 5) (tTest (tOp rEq (tOp (rIxT K) (tVar 5) (tC (.int 0))) (tDGet (tVar 0) (tC (.str "hand"))))) (tVar 5) [5])) [some (.ref r), some v1, some v2, none, none, none] H (((keys s.log).filter fun c => decide (c / 400 = s.i)).map fun c => Ob.dat (idD c)) := by
    refine gl_lock (d := dS) (u := .dT kvs) (fun H1 t => S0.same t _ _ hd) trivial (fun H1 od t => ?_) (fun xs e => by cases e)
    have rL : ∀ {H2 : Hp}, S0.T (upd H1 dS (.frz od (.dT kvs))) H2 → H2 r = some (.dK (ownF (hnd s.i) vF vA dS dH)) := fun t2 => S0.same t2 _ _ (by rw [upd_ne nd.1]; exact S0.same t _ _ hr1)
    refine gl_lc1 (l := keys s.log) (keep := fun c => decide (c / 400 = s.i)) (f := fun c => Ob.dat (idD c)) (gi_keysT (gv_own (v := .ref dS) (kvs := ownF (hnd s.i) vF vA dS dH) (gv_val rfl) (fun H2 t2 => rL t2) o_steps rfl) upd_same lk') (by rw [keys_len]; omega) (fun _ => rfl) fun j z x H2 hz a hy => ⟨?_, fun _ => gv_vd rfl hy⟩
    refine (gt_test (gv_op (Gv.str_val (gv_ixT (i := 0) (ds := [.str (hnd (z / 400)), .int ((z % 400 : Nat) : Int)]) (gv_vd rfl hy) gv_int rfl rfl)) (gh rfl (rL a)) (rg_eq rfl))).cast ?_
    rw [decide_eq_decide]
    have hz' := o.key (List.mem_of_getElem? hz)
    have hi := o.i
    constructor
    · intro e
      have e : hnd (z / 400) = hnd s.i := V.str.inj e
      exact congrArg Fin.val (hnd_inj ⟨z / 400, by omega⟩ ⟨s.i, hi⟩ e)
    · intro e
      rw [e]
  refine gx_set (S := S0) (Gv.ge (o := .dat (idD (nxt s))) ((gv_tup (ds := [.str (hnd s.i), .int (s.m : Int)]) (ga_two (Gv.str_dat (gh rfl hr1)) (Gv.int_dat ((gv_lenL cnt).int_cast (by rw [List.length_map, own_count ok])))) (by show 2 ≤ 100000; decide)).cast ?_)) H S0.r _ ?_
  · rw [idD, nx.2.1, nx.2.2]
  rintro _ H1 a1 ⟨vt, rt, rfl⟩
  have rt : Rep H1 vt (idD (nxt s)) := rt
  dsimp only
  refine gx_set (S := S0) (Gv.ge (o := .val (.ref dS)) (gv_own (gv_val rfl) (fun H2 t => S0.same (a1.trans t) _ _ hr1) o_steps rfl)) H1 S0.r _ ?_
  rintro _ H2 a12 ⟨v', ev, rfl⟩
  have ev : v' = .ref dS := ev
  subst ev
  have a2 := a1.trans a12
  dsimp only
  have gF : ∀ {σ : L2.St}, σ[0]? = some (some (.ref r)) → Gv S0 (tDGet (tVar 0) (tC (.str "fields"))) σ H2 (.dat (fieldsD s.fs)) := fun e => gv_ownD (gv_val e) (fun H5 t2 => S0.same (a2.trans t2) _ _ hr1) o_fields (rF.mono a2.tups)
  refine Gv.fin (S := S0) (gv_call (ι := List Kd × List (List Int) × List (List Int)) (s.fs, walkA s lot, amOf s.fs rec) (ga_three (gF rfl) (gv_callO (args := fun _ l => [.dat (idsD l)]) (pre := fun s l => ∀ c ∈ l, c ∈ keys s.log) (res := fun s l => .dat (amD (walkA s l))) lot (gv_val rfl) (fun H5 t => hR.same (S0.same (a2.trans t))) (ga_one (gv_vd (i := 1) rfl (rv1.mono a2.tups))) o known) (gv_call (ι := List Kd × List Int) (s.fs, rec) (ga_two (gF rfl) (gv_vd (i := 2) rfl (rv2.mono a2.tups))) ⟨o.fs, orec⟩)) ⟨o.fs, walk_ok o known, amOf_ok o.fs orec⟩) trivial fun v H5 a5 rv => ?_
  have rv : Rep H5 v (amD (stps s.fs (walkA s lot) (amOf s.fs rec))) := rv
  have a25 := a2.trans a5
  obtain ⟨b, rfl, hb⟩ := id_at ((rt.mono a12.tups).mono a5.tups)
  refine ⟨_, rfl, _, rfl, ?_⟩
  obtain ⟨H7, dp, ⟨kvs, e7⟩, st7⟩ := std_put (Q := fun H7 => (∃ kvs, H7 = upd H5 dS (.dT kvs)) ∧ StD H7 dS (pt s.log (nxt s) (stps s.fs (walkA s lot) (amOf s.fs rec)))) (dSt.same (S0.same a25)) o.log (by omega) nx.1 rv hb fun kvs st => ⟨⟨kvs, rfl⟩, st⟩
  have t6 := Sys.T.of_same jS (S0.same a25)
  have t7 : (SA fun x => x = dS).T H5 H7 := by rw [e7]; exact SA.put t6.j' rfl rfl
  refine ⟨dS, H7, rfl, dp, _, rfl, k _ _ (t6.trans t7) ⟨vF, vA, t7.k _ _ nd.1 (S0.same a25 _ _ hr1), (rF.mono a25.tups).mono t7.tups, (rA.mono a25.tups).mono t7.tups, st7, (dHd.same (S0.same a25)).to t7 fun e => nd.2 (show dH = dS from e).symm⟩ (((rt.mono a12.tups).mono a5.tups).mono t7.tups)⟩

end
end Ed

set_option maxHeartbeats 1000000
/-! EdD9: what changes own dicts. -/
namespace Ed
open PySem PySem.Spec PyProof.Rows L2
section
variable {P : Program} {w : World} {K : PySem.W.Frag} {mg : Str → Option Value} {base : Heap}
variable {C : Addr}
theorem keys_take {p : Log} : ∀ {log : Log} {c : Nat}, c ∈ keys (takeL log p) ↔ c ∈ keys log ∨ c ∈ p.map (·.1) := by
  induction p with
  | nil => intro log c; simp [takeL]
  | cons e p ih =>
    intro log c
    have := ih (log := pt log e.1 e.2) (c := c)
    rw [show takeL log (e :: p) = takeL (pt log e.1 e.2) p from rfl, this, List.map_cons, List.mem_cons]
    have k : c ∈ keys (pt log e.1 e.2) ↔ c ∈ keys log ∨ c = e.1 := by
      unfold keys
      rw [pt_keys]
      split
      · rename_i h
        exact ⟨.inl, fun q => q.elim id fun q => q ▸ h⟩
      · rw [List.mem_append, List.mem_singleton]
    rw [k, or_assoc]
theorem both_lot {a b : List Nat} (ha : Lot a) (hb : Lot b) : Lot (both a b) := by
  have hl : ∀ c ∈ a.filter (fun c => decide (c ∉ b)) ++ b, c < 1200 := fun c hc => (List.mem_append.mp hc).elim (fun h => ha.1 c (List.mem_filter.mp h).1) (hb.1 c)
  have pm : (both a b).Perm (a.filter (fun c => decide (c ∉ b)) ++ b) := srt_perm
  refine ⟨fun c hc => hl c (pm.mem_iff.mp hc), ?_⟩
  have nd : (both a b).Nodup := pm.symm.nodup (List.nodup_append.mpr ⟨(ha.2.imp Nat.ne_of_lt).filter _, hb.2.imp Nat.ne_of_lt, fun x hx y hy e => by
    have := (List.mem_filter.mp hx).2
    rw [decide_eq_true_iff] at this
    exact this (by rw [e]; exact hy)⟩)
  exact ((srt_sorted hl).and nd).imp fun h => Nat.lt_of_le_of_ne h.1 h.2
theorem both_mem {a b : List Nat} {c : Nat} : c ∈ both a b ↔ c ∈ a ∨ c ∈ b := by
  have pm : (both a b).Perm (a.filter (fun c => decide (c ∉ b)) ++ b) := srt_perm
  rw [pm.mem_iff, List.mem_append, List.mem_filter, decide_eq_true_iff]
  constructor
  · rintro (h | h)
    · exact .inl h.1
    · exact .inr h
  · rintro (h | h)
    · by_cases q : c ∈ b
      · exact .inr q
      · exact .inl ⟨h, q⟩
    · exact .inr h
theorem lot_nil : Lot [] := ⟨fun c h => (by cases h), .nil⟩
theorem hear_lots {h : Hds} : ∀ {hs : Hds}, (∀ e ∈ hs, Lot e.2) → (∀ e ∈ h, Lot e.2) → ∀ e ∈ hearL hs h, Lot e.2 := by
  induction h with
  | nil => intro hs h1 _; exact h1
  | cons x h ih =>
    intro hs h1 h2
    refine ih (hs := pt hs x.1 (both ((lk hs x.1).getD []) x.2)) (fun e he => ?_) fun e he => h2 e (by simp [he])
    rcases pt_mem he with q | q
    · exact h1 e q
    · rw [q]
      refine both_lot ?_ (h2 x (by simp))
      cases z : lk hs x.1 with
      | none => exact lot_nil
      | some l => exact h1 _ (lk_mem z)
theorem hear_len {h : Hds} : ∀ {hs : Hds}, (hearL hs h).length ≤ hs.length + h.length := by
  induction h with
  | nil => intro hs; exact Nat.le_refl _
  | cons x h ih =>
    intro hs
    have h1 := ih (hs := pt hs x.1 (both ((lk hs x.1).getD []) x.2))
    have h2 := pt_len (l := hs) (c := x.1) (b := both ((lk hs x.1).getD []) x.2)
    rw [List.length_cons]
    show (hearL (pt hs x.1 (both ((lk hs x.1).getD []) x.2)) h).length ≤ _
    omega
theorem pair_at {H : Hp} {v : V} {d e : PyData} (h : Rep H v (.tuple [d, e])) : ∃ t a b, v = .ref t ∧ H t = some (.tup [a, b]) ∧ Rep H a d ∧ Rep H b e := by
  obtain ⟨t, xs, rfl, ht, hr⟩ := Rep.inv h
  cases hr with
  | cons h1 r => cases r with
    | cons h2 r => cases r; exact ⟨t, _, _, rfl, ht, h1, h2⟩
theorem rg_inLV {S : Sys} {H : Hp} {neg c : Bool} {l : Addr} {xs : List V} {ids : List Nat} {d : Nat} (hl : ∀ H1, S.T H H1 → H1 l = some (.lst xs)) (hx : ∀ H1, S.T H H1 → Reps H1 xs (ids.map idD)) (hc : c = true ↔ d ∈ ids) (h1 : ∀ c ∈ ids, c < 1200) (h2 : d < 1200) : RG S (rInLD K neg) (.dat (idD d)) (.val (.ref l)) H (.val (.bl (if neg then !c else c))) := fun H1 a x y hx' hy Q k => by
  cases hy
  have pls : ∀ a ∈ ids, pl 19 (idD a) = true := fun _ _ => pl_id
  have q := pl_shaped (pl_tup pls) (by decide)
  have q1 : PyData.canLay0 (.list (ids.map idD)) = true := by
    have := SeqAt.canLay_of_shaped q
    simp only [PyData.canLay0] at this ⊢
    exact this
  have q2 : PyData.depth (.list (ids.map idD)) ≤ 64 := by
    have := SeqAt.depth_of_shaped q
    simp only [PyData.depth] at this ⊢
    exact this
  refine ⟨idD d, ids.map idD, Rep.dp hx' (pl_noL (n := 5) pl_id), .lst (SqL.of (hl H1 a)) (Reps.dp (hx H1 a) (by simpa only [noL] using pl_noL (pl_tup pls))), pl_shaped (n := 5) pl_id (by decide), Bool.and_eq_true_iff.mpr ⟨q1, decide_eq_true q2⟩, ?_⟩
  rw [any_eqv (c := c) pls (pl_id (n := 18)) (by rw [hc]; exact ⟨fun h => ⟨_, h, rfl⟩, fun ⟨a, ha, e⟩ => id_inj (h1 a ha) h2 e ▸ ha⟩)]
  exact k _ H1 a.fin rfl
theorem gv_dget2S {S : Sys} {σ : L2.St} {H : Hp} {td ty tx : TE} {d : Addr} {hs : Hds} {w : Str} (h : Gv S td σ H (.val (.ref d))) (hy : Gv S ty σ H (.val (.str w))) (hx : Gv S tx σ H (.dat (idsD []))) (hd : ∀ H1, S.T H H1 → HdD H1 d hs) : Gv S (tDGet2 td ty tx) σ H (.dat (idsD ((lk hs w).getD []))) := fun H1 t Q k =>
  h H1 t _ fun x H2 t2 hxv => by
    cases hxv
    obtain ⟨kv0, i1, _⟩ := hd H2 (t.trans t2)
    refine ⟨d, rfl, .inl ⟨kv0, .inl i1⟩, hy H2 (t.trans t2) _ fun y H3 t3 hyv => hx H3 ((t.trans t2).trans t3) _ fun z H4 t4 hz => ?_⟩
    cases hyv
    obtain ⟨kvs, h1, h2⟩ := hd H4 (((t.trans t2).trans t3).trans t4)
    have g := h2.get (c := w) kS_inj
    refine ⟨_, DGet.k (k := kS w) h1, k _ H4 ((t2.trans t3).trans t4) ?_⟩
    cases e : lk hs w with
    | none => rw [g.1 e]; exact hz
    | some l =>
      obtain ⟨v, hv, rv⟩ := g.2 l e
      rw [hv]
      exact rv

theorem sc_law_v_replica : FnScope ["_law_hand", "_law_sorts", "_law_line"] ["_law_hand", "_law_sorts", "_law_line"] (defScope s_law_v_replica) := ⟨rfl, rfl, rfl, by decide +kernel, rfl, by decide +kernel, by decide +kernel⟩
theorem ok_law_v_replica (T : Tx mg) (F : DfD K mg "_law_v_replica" s_law_v_replica)  : Gd P w K mg base "_law_v_replica" 1 sp_law_v_replica := gd_of (N := ["_law_hand", "_law_sorts", "_law_line"]) F sc_law_v_replica (fun _ _ _ _ _ _ us hl => match us, hl with | [_, _, _], _ => rfl) (fun vs H Q E h => by
  obtain ⟨i, v1, v2, fs, line, rfl, _⟩ := h
  rfl) fun f cdv A outer s0 H vs Q E hr hsp => by
  obtain ⟨i, v1, v2, fs, line, rfl, rv1, rv2, k⟩ := hsp
  refine ⟨_, (pss_one (ps_ret (pe_disp (pps_cons pe_str (pv 0) (pps_cons pe_str (pv 1) (pps_cons pe_str (pv 2) (pps_cons pe_str pe_dnewT (pps_cons pe_str pe_dnewK pps_nil))))) rfl rfl (fun e => nomatch e) (by decide)))), ?_⟩
  intro p hp
  refine ⟨_, rfl, _, rfl, _, rfl, fun dS hS dH hH => ?_⟩
  have n1 : p ≠ dS := fun e => by rw [e, upd_same] at hS; cases hS
  have n2 : dS ≠ dH := fun e => by rw [e, upd_same] at hH; cases hH
  have n3 : p ≠ dH := fun e => by rw [e, upd_ne (e ▸ n1), upd_same] at hH; cases hH
  have hS' : H dS = none := by rw [upd_ne n1.symm] at hS; exact hS
  have hH' : H dH = none := by rw [upd_ne n2.symm, upd_ne n3.symm] at hH; exact hH
  refine ⟨by rw [upd_ne n3, upd_ne n1, upd_same], [(kS "hand", .str (hnd i)), (kS "fields", v1), (kS "first", v2), (kS "steps", .ref dS), (kS "heads", .ref dH)], rfl, by show 5 ≤ 15; decide, ?_⟩
  have e5 : mergeK [] [(kS "hand", V.str (hnd i)), (kS "fields", v1), (kS "first", v2), (kS "steps", .ref dS), (kS "heads", .ref dH)] = ownF (hnd i) v1 v2 dS dH := rfl
  rw [e5]
  have sm : Same H (upd (upd (upd (upd H p (.dK [])) dS (.dT [])) dH (.dK [])) p (.dK (ownF (hnd i) v1 v2 dS dH))) := fun b o e => by
    rw [upd_ne (ne_of_none e hp), upd_ne (ne_of_none e hH'), upd_ne (ne_of_none e hS'), upd_ne (ne_of_none e hp)]
    exact e
  exact k p _ dS dH sm hp hS' hH' ⟨v1, v2, upd_same, rv1.mono (Same.tups sm), rv2.mono (Same.tups sm), ⟨[], by rw [upd_ne n1.symm, upd_ne n2, upd_same], .nil⟩, ⟨[], by rw [upd_ne n3.symm, upd_same], .nil⟩⟩

theorem sc_law_v_packet : FnScope ["_law_own", "_law_ids", "_law_one_here"] ["_law_own", "_law_ids"] (defScope s_law_v_packet) := ⟨rfl, rfl, rfl, by decide +kernel, rfl, by decide +kernel, by decide +kernel⟩
theorem ok_law_v_packet (T : Tx mg) (F : DfD K mg "_law_v_packet" s_law_v_packet) (G_law_v_ids : Gd P w K mg base "_law_v_ids" 1 sp_law_v_ids) : Gd P w K mg base "_law_v_packet" 2 sp_law_v_packet := gd_of (N := ["_law_own", "_law_ids", "_law_one_here"]) F sc_law_v_packet (fun _ _ _ _ _ _ us hl => match us, hl with | [_, _], _ => rfl) (fun vs H Q E h => by
  obtain ⟨r, dS, dH, l, s, xs, ids, rfl, _⟩ := h
  rfl) fun f cdv A outer s0 H vs Q E hr hsp => by
  obtain ⟨r, dS, dH, l, s, xs, ids, rfl, hR, o, hl, hx, hid, k⟩ := hsp
  obtain ⟨vF, vA, hr1, rF, rA, dSt, dHd⟩ := id hR
  refine ⟨_, (pss_one (ps_ret (pe_ct call_tuple_of T.tuple boot_tuple (pa_cons (pe_lc (own := [("_law_one_here", 2)]) (g := (gName 2)) (tt := (tTest (tOp (rInLD K true) (tVar 2) (tVar 1)))) (te := (tTup (tCons (tVar 2) (tCons (tDGet (tDGet (tVar 0) (tC _)) (tVar 2)) tNil)))) rfl sc_law_v_packet.nd (pi_tup (pe_gd G_law_v_ids hr (pa_cons (pv 0) pa_nil))) (blkOk_by (N := ["_law_own", "_law_ids", "_law_one_here"]) (sc := defScope s_law_v_packet) (by decide +kernel)) (fun _ _ _ _ _ => (pgn 2 sc_law_v_packet.nd)) (fun _ _ _ _ _ => (pts_one (pt_cmpR (op_ninLD (hu65 hr)) (pv 2) (pv 1) (by rfl)))) (fun _ _ _ _ _ => (pe_tup (pa_cons (pv 2) (pa_cons (pe_dget (hu_of hr) (pe_dget (hu_of hr) (pv 0) pe_str (fun _ _ => rfl)) (pv 2) (fun _ _ => rfl)) pa_nil))))) pa_nil)))), ?_⟩
  have few := o.few
  refine gr_ret (S := S0) (o := .dat (packD (pkt s ids))) ((gv_tupleL (ds := ((srt idD (keys s.log)).filter fun c => decide (c ∉ ids)).map fun c => .tuple [idD c, amD (lkD s.log c)]) ((gl_lc1 (l := srt idD (keys s.log)) (keep := fun c => decide (c ∉ ids)) (f := fun c => Ob.dat (.tuple [idD c, amD (lkD s.log c)])) (gi_tup (enc := idD) (gv_callO (args := fun _ _ => []) (pre := fun _ _ => True) (res := fun s _ => .dat (idsD (srt idD (keys s.log)))) () (gv_val rfl) (fun H1 t => hR.same (S0.same t)) ga_nil o trivial)) (by rw [srt_len, keys_len]; omega) (fun _ => rfl) fun j z x H1 hz a hy => ?_).cast (by rw [List.map_map]; rfl))).cast ?_) H S0.r _ fun v H1 a hv => k v H1 (S0.same a) hv
  · have hk := srt_key (List.mem_of_getElem? hz)
    exact ⟨(gt_test (gv_op (gv_vd rfl hy) (gv_val rfl) (rg_inLV (neg := true) (c := decide (z ∈ ids)) (fun H2 t => S0.same (a.trans t) _ _ hl) (fun H2 t => hx.mono (a.trans t).tups) (by rw [decide_eq_true_iff]) hid (o.key hk)))).cast (by simp), fun _ => gv_tup (ds := [idD z, amD (lkD s.log z)]) (ga_two (gv_vd rfl hy) (gv_dgetT (gv_own (v := .ref dS) (kvs := ownF (hnd s.i) vF vA dS dH) (gv_val rfl) (fun H2 t => S0.same (a.trans t) _ _ hr1) o_steps rfl) (gv_vd rfl hy) (fun H4 t => dSt.same (S0.same (a.trans t))) o.log (o.key hk) (lkD_eq hk))) (by show 2 ≤ 100000; decide)⟩
  · rw [packD, pkt, List.map_map]
    rfl

theorem sc_law_v_taken : FnScope ["_law_own", "_law_packet_in", "_law_fresh", "_law_steps", "_law_one_here", "_law_go"] ["_law_own", "_law_packet_in"] (defScope s_law_v_taken) := ⟨rfl, rfl, rfl, by decide +kernel, rfl, by decide +kernel, by decide +kernel⟩
theorem ok_law_v_taken (T : Tx mg) (F : DfD K mg "_law_v_taken" s_law_v_taken)  : Gd P w K mg base "_law_v_taken" 1 sp_law_v_taken := gd_of (N := ["_law_own", "_law_packet_in", "_law_fresh", "_law_steps", "_law_one_here", "_law_go"]) F sc_law_v_taken (fun _ _ _ _ _ _ us hl => match us, hl with | [_, _], _ => rfl) (fun vs H Q E h => by
  obtain ⟨r, dS, dH, s, v, p, rfl, _⟩ := h
  rfl) fun f cdv A outer s0 H vs Q E hr hsp => by
  obtain ⟨r, dS, dH, s, v, p, rfl, hR, o, rp, pk, p40, k⟩ := hsp
  obtain ⟨vF, vA, hr1, rF, rA, dSt, dHd⟩ := id hR
  refine ⟨_, (pss_cons (ps_par (i := 2) (j := 3) rfl sc_law_v_taken.nd rfl rfl (by decide) (by rfl) (by rfl) (pa_cons (pe_lst pa_nil) (pa_cons (pe_dget (hu_of hr) (pv 0) pe_str (fun _ _ => rfl)) pa_nil)) (by rfl))
    (pss_cons (ps_for PassesOwn.never rfl (pi_tup (pv 1)) (pg_tup rfl (pgs_cons (pgn 4 sc_law_v_taken.nd) (pgs_cons (pgn 5 sc_law_v_taken.nd) pgs_nil))) (pss_cons (ps_if (pt_cmp (pc_dnotin (hu_of hr) (pv 4) (pv 3))) (pss_one (ps_expr (pe_bm PySem.F.plainAttrs_list PySem.F.slot_list_append PySem.F.type_list_append mt_append (pv 2) (pa_cons (pv 4) pa_nil)))) pss_nil)
    (pss_one (ps_dput (hu_of hr) (pv 3) (pv 4) (pv 5) rfl))))
    (pss_one (ps_ret (pe_ct call_tuple_of T.tuple boot_tuple (pa_cons (pv 2) pa_nil)))))), ?_⟩
  have nd := hR.ne
  refine gx_par (S := S0) (R := fun x y H' => ∃ q, x = .ref q ∧ y = .ref dS ∧ H q = none ∧ H' q = some (.lst [])) (ga_e2 (R1 := fun x H' => ∃ q, x = .ref q ∧ H q = none ∧ H' q = some (.lst [])) (fun H1 a Q kk => ⟨Nat.zero_le _, fun q hq => kk _ _ (.new a.j' hq) ⟨q, rfl, a.free hq, upd_same⟩⟩) fun x H1 a ⟨q, e1, e2, e3⟩ => Ge.imp (gv_own (o := .val (.ref dS)) (gv_val rfl) (fun H2 t => S0.same (a.trans t) _ _ hr1) o_steps rfl).ge fun y H2 a2 ey => ⟨q, e1, ey, e2, S0.same a2 _ _ e3⟩) H S0.r _ ?_
  rintro _ H1 a1 ⟨_, _, rfl, q, rfl, rfl, hq, hq1⟩
  dsimp only
  have jS : (SA fun x => x = dS).J H := fun x m => by
    obtain ⟨kvs, h1, _⟩ := dSt
    exact ⟨_, (show x = dS from m) ▸ h1, rfl⟩
  have dSt := dSt.same (S0.same a1)
  have j1 : (SA fun x => x = dS ∨ x = q).J H1 := fun x m => by
    rcases m with m | m
    · obtain ⟨kvs, h1, _⟩ := dSt
      exact ⟨_, m ▸ h1, rfl⟩
    · exact ⟨_, m ▸ hq1, rfl⟩
  have nq : dS ≠ q := fun e => by
    obtain ⟨kvs, h1, _⟩ := dSt
    rw [e, hq1] at h1
    cases h1
  refine loop_at (S := SA fun x => x = dS ∨ x = q) (l := p) (gi_tupA (enc := fun e : Nat × Am => .tuple [idD e.1, amD e.2]) (gv_vd (i := 1) rfl (rp.mono a1.tups))) j1
    (fun i σ' H' => ∃ xs u w, σ' = [some (.ref r), some v, some (.ref q), some (.ref dS), u, w] ∧ (SA fun x => x = dS ∨ x = q).T H1 H' ∧ StD H' dS (takeL s.log (p.take i)) ∧ H' q = some (.lst xs) ∧ Reps H' xs ((((p.take i).filter fun e => decide (e.1 ∉ keys s.log)).map (·.1)).map idD))
    (fun H2 s2 => ⟨[], none, none, rfl, .of_same j1 s2, dSt.same s2, s2 _ _ hq1, .nil⟩) (fun i z x σ' H2 hz a2 hqq hy => ?_) fun σ' H2 a2 hqq => ?_
  · obtain ⟨H0, ⟨xs, u, w, rfl, t0, st0, e0, rx0⟩, s0'⟩ := hqq
    have st0 := st0.same s0'
    have e0 := s0' _ _ e0
    have rx0 := rx0.mono (Same.tups s0')
    obtain ⟨t, va, vb, rfl, ht, ra, rb⟩ := pair_at (H := H2) hy
    have hzm := List.mem_of_getElem? hz
    have zid := pk.id z hzm
    have okt : LogOk s.fs (takeL s.log (p.take i)) := takeL_ok o.log (fun e he => pk.id e (List.mem_of_mem_take he)) fun e he => pk.am e (List.mem_of_mem_take he)
    have lent : (takeL s.log (p.take i)).length ≤ 100 := by
      have h1 := takeL_len (p := p.take i) (log := s.log)
      have h2 : (p.take i).length ≤ p.length := List.length_take_le' _ _
      have := o.few
      omega
    have new : z.1 ∈ keys (takeL s.log (p.take i)) ↔ z.1 ∈ keys s.log := by
      rw [keys_take]
      refine ⟨fun h => h.elim id fun h => ?_, .inl⟩
      obtain ⟨e, he, q1⟩ := List.mem_map.mp h
      obtain ⟨j, hj⟩ := List.mem_iff_getElem?.mp he
      have hji : j < i := by
        have := (List.getElem?_eq_some_iff.mp hj).1
        rw [List.length_take] at this
        omega
      rw [List.getElem?_take_of_lt hji] at hj
      have m1 : (p.map (·.1))[j]? = some e.1 := by rw [List.getElem?_map, hj]; rfl
      have m2 : (p.map (·.1))[i]? = some z.1 := by rw [List.getElem?_map, hz]; rfl
      obtain ⟨i1, g1⟩ := List.getElem?_eq_some_iff.mp m1
      obtain ⟨i2, g2⟩ := List.getElem?_eq_some_iff.mp m2
      have lt := List.pairwise_iff_getElem.mp pk.up j i i1 i2 hji
      rw [g1, g2] at lt
      omega
    have flt : ((p.take (i + 1)).filter fun e => decide (e.1 ∉ keys s.log)) = ((p.take i).filter fun e => decide (e.1 ∉ keys s.log)) ++ (if z.1 ∈ keys s.log then [] else [z]) := by
      rw [List.take_add_one, hz, List.filter_append]
      congr 1
      by_cases c : z.1 ∈ keys s.log <;> simp [c]
    refine ⟨[some (.ref r), some v, some (.ref q), some (.ref dS), some va, some vb], fun Q qq => g2_ok ht qq, fun D' _ kk _ => ?_⟩
    have put : ∀ {H3 : Hp} {ys : List V}, (SA fun x => x = dS ∨ x = q).T H2 H3 → StD H3 dS (takeL s.log (p.take i)) → H3 q = some (.lst ys) → Reps H3 ys ((((p.take (i + 1)).filter fun e => decide (e.1 ∉ keys s.log)).map (·.1)).map idD) →
        sDPut (tVar 3) (tVar 4) (tVar 5) D' [some (.ref r), some v, some (.ref q), some (.ref dS), some va, some vb] H3 := by
      intro H3 ys t3 st3 e3 r3
      obtain ⟨b, rfl, hb⟩ := id_at (ra.mono t3.tups)
      refine ⟨vb, rfl, _, rfl, _, rfl, ?_⟩
      obtain ⟨H4, dp, ⟨kvs, e4⟩, st4⟩ := std_put (Q := fun H7 => (∃ kvs, H7 = upd H3 dS (.dT kvs)) ∧ StD H7 dS (pt (takeL s.log (p.take i)) z.1 z.2)) st3 okt lent zid (rb.mono t3.tups) hb fun kvs st => ⟨⟨kvs, rfl⟩, st⟩
      have t4 : (SA fun x => x = dS ∨ x = q).T H3 H4 := by rw [e4]; exact SA.put t3.j' (.inl rfl) rfl
      refine ⟨dS, H4, rfl, dp, kk _ H4 (t3.trans t4) ⟨ys, _, _, rfl, (t0.trans (.of_same t0.j' s0')).trans (t3.trans t4), ?_, by rw [e4, upd_ne nq.symm]; exact e3, r3.mono t4.tups⟩⟩
      rw [takeL_take hz]
      exact st4
    refine GvT.fin (S := S0) (gt_B (gv_dninT (log := takeL s.log (p.take i)) (fs := s.fs) (c := z.1) (d := dS) (gv_vd (i := 4) rfl ra) (gv_val (i := 3) rfl) (fun H3 t3 => st0.same (S0.same t3)) okt zid)) trivial fun H3 a3 => ?_
    have s3 := S0.same a3
    have t3 : (SA fun x => x = dS ∨ x = q).T H2 H3 := .of_same a2.j' s3
    refine ite2 (fun c => ?_) fun c => ?_
    · have c : z.1 ∉ keys s.log := fun m => of_decide_eq_true c (new.mpr m)
      have e3 := s3 _ _ e0
      refine ⟨_, rfl, .inl ⟨rfl, _, SqL.of e3⟩, _, rfl, q, xs, va, rfl, rfl, e3, small ?_, ?_⟩
      · rw [rx0.length, List.length_map, List.length_map]
        have h1 := List.length_filter_le (fun e : Nat × Am => decide (e.1 ∉ keys s.log)) (p.take i)
        have h2 : (p.take i).length ≤ p.length := List.length_take_le' _ _
        omega
      · have t4 : (SA fun x => x = dS ∨ x = q).T H3 (upd H3 q (.lst (xs ++ [va]))) := SA.put t3.j' (.inr rfl) rfl
        obtain ⟨kv3, g1, g2⟩ := st0.same s3
        refine put (t3.trans t4) ⟨kv3, by rw [upd_ne nq]; exact g1, g2.mono t4.tups⟩ upd_same ?_
        rw [flt, if_neg c, List.map_append, List.map_append]
        exact reps_append ((rx0.mono a3.tups).mono t4.tups) (.cons ((ra.mono a3.tups).mono t4.tups) .nil)
    · have c : z.1 ∈ keys s.log := Decidable.of_not_not fun m => c (decide_eq_true fun q => m (new.mp q))
      refine put t3 (st0.same s3) (s3 _ _ e0) ?_
      rw [flt, if_pos c, List.append_nil]
      exact rx0.mono a3.tups
  · obtain ⟨xs, u, w, rfl, t2, st2, e2, rx2⟩ := hqq
    rw [List.take_length] at st2 rx2
    have tS : (SA fun x => x = dS).T H H2 := SA.fresh (.of_same jS (S0.same a1)) hq t2
    refine (gv_tupleV (K := K) (S := S0) (xs := xs) (gv_val (i := 2) rfl) (fun H4 a4 => S0.same a4 _ _ e2) (fun H4 a4 => rx2.mono a4.tups)) H2 S0.r _ fun v2 H4 a4 hv2 => ?_
    have s4 := S0.same a4
    have t4 := tS.trans (.of_same tS.j' s4)
    exact k v2 H4 t4 ⟨vF, vA, t4.k _ _ nd.1 hr1, rF.mono t4.tups, rA.mono t4.tups, st2.same s4, dHd.to t4 fun e => nd.2 (show dH = dS from e).symm⟩ hv2

theorem sc_law_v_heard : FnScope ["_law_own", "_law_heads_in", "_law_heads_now", "_law_word", "_law_lot"] ["_law_own", "_law_heads_in"] (defScope s_law_v_heard) := ⟨rfl, rfl, rfl, by decide +kernel, rfl, by decide +kernel, by decide +kernel⟩
theorem ok_law_v_heard (T : Tx mg) (F : DfD K mg "_law_v_heard" s_law_v_heard) (G_law_v_both : Gd P w K mg base "_law_v_both" 1 sp_law_v_both) : Gd P w K mg base "_law_v_heard" 2 sp_law_v_heard := gd_of (N := ["_law_own", "_law_heads_in", "_law_heads_now", "_law_word", "_law_lot"]) F sc_law_v_heard (fun _ _ _ _ _ _ us hl => match us, hl with | [_, _], _ => rfl) (fun vs H Q E h => by
  obtain ⟨r, dS, dH, s, v, h, rfl, _⟩ := h
  rfl) fun f cdv A outer s0 H vs Q E hr hsp => by
  obtain ⟨r, dS, dH, s, v, h, rfl, hR, few, h40, rv, hl1, hl2, k⟩ := hsp
  obtain ⟨vF, vA, hr1, rF, rA, dSt, dHd⟩ := id hR
  refine ⟨_, (pss_cons (psn 2 sc_law_v_heard.nd (pe_dget (hu_of hr) (pv 0) pe_str (fun _ _ => rfl)))
    (pss_one (ps_for PassesOwn.never rfl (pi_tup (pv 1)) (pg_tup rfl (pgs_cons (pgn 3 sc_law_v_heard.nd) (pgs_cons (pgn 4 sc_law_v_heard.nd) pgs_nil))) (pss_one (ps_dput (hu_of hr) (pv 2) (pv 3) (pe_gd G_law_v_both hr (pa_cons (pe_dget2 (hu_of hr) (pv 2) (pv 3) (pe_tup pa_nil) ⟨rfl, rfl, rfl, rfl⟩) (pa_cons (pv 4) pa_nil))) rfl))))), ?_⟩
  have nd := hR.ne
  have ndH := hR.neH
  have jS : (SA fun x => x = dH).J H := fun x m => by
    obtain ⟨kvs, h1, _⟩ := dHd
    exact ⟨_, (show x = dH from m) ▸ h1, rfl⟩
  refine gx_set (S := S0) (Gv.ge (o := .val (.ref dH)) (gv_own (gv_val rfl) (fun H2 t => S0.same t _ _ hr1) o_heads rfl)) H S0.r _ ?_
  rintro _ H1 a1 ⟨v', ev, rfl⟩
  have ev : v' = .ref dH := ev
  subst ev
  have dHd := dHd.same (S0.same a1)
  have j1 : (SA fun x => x = dH).J H1 := (Sys.T.of_same jS (S0.same a1)).j'
  dsimp only
  refine loop_at (S := SA fun x => x = dH) (l := h) (gi_tupA (enc := fun e : Str × List Nat => .tuple [.str e.1, idsD e.2]) (gv_vd (i := 1) rfl (rv.mono a1.tups))) j1
    (fun i σ' H' => ∃ u w, σ' = [some (.ref r), some v, some (.ref dH), u, w] ∧ (SA fun x => x = dH).T H1 H' ∧ HdD H' dH (hearL s.hs (h.take i)))
    (fun H2 s2 => ⟨none, none, rfl, .of_same j1 s2, dHd.same s2⟩) (fun i z x σ' H2 hz a2 hqq hy => ?_) fun σ' H2 a2 hqq => ?_
  · obtain ⟨H0, ⟨u, w, rfl, t0, st0⟩, s0'⟩ := hqq
    have st0 := st0.same s0'
    obtain ⟨t, va, vb, rfl, ht, ra, rb⟩ := pair_at (H := H2) hy
    have ea := Rep.inv_str ra
    subst ea
    have hzm := List.mem_of_getElem? hz
    have lots := hear_lots (h := h.take i) hl2 fun e he => hl1 e (List.mem_of_mem_take he)
    have lent : (hearL s.hs (h.take i)).length ≤ 100 := by
      have h1 := hear_len (h := h.take i) (hs := s.hs)
      have h2 : (h.take i).length ≤ h.length := List.length_take_le' _ _
      omega
    refine ⟨[some (.ref r), some v, some (.ref dH), some (.str z.1), some vb], fun Q qq => g2_ok ht qq, fun D' _ kk _ => ?_⟩
    have lotz : Lot ((lk (hearL s.hs (h.take i)) z.1).getD []) := by
      cases e : lk (hearL s.hs (h.take i)) z.1 with
      | none => exact lot_nil
      | some l => exact lots _ (lk_mem e)
    refine Gv.fin (S := S0) (gv_call (ι := List Nat × List Nat) ((lk (hearL s.hs (h.take i)) z.1).getD [], z.2) (ga_two (gv_dget2S (gv_val (i := 2) rfl) (gv_val (i := 3) rfl) (gv_tup (ds := []) ga_nil (by decide)) fun H3 t3 => st0.same (S0.same t3)) (gv_vd (i := 4) rfl rb)) ⟨lotz, hl1 z hzm⟩) trivial fun v3 H3 a3 rv3 => ?_
    have rv3 : Rep H3 v3 (idsD (both ((lk (hearL s.hs (h.take i)) z.1).getD []) z.2)) := rv3
    refine ⟨_, rfl, _, rfl, ?_⟩
    obtain ⟨H4, dp, ⟨kvs, e4⟩, st4⟩ := hdd_put (Q := fun H7 => (∃ kvs, H7 = upd H3 dH (.dK kvs)) ∧ HdD H7 dH (pt (hearL s.hs (h.take i)) z.1 (both ((lk (hearL s.hs (h.take i)) z.1).getD []) z.2))) (w := z.1) (st0.same (S0.same a3)) lent rv3 fun kvs st => ⟨⟨kvs, rfl⟩, st⟩
    have t3 : (SA fun x => x = dH).T H2 H3 := .of_same a2.j' (S0.same a3)
    have t4 : (SA fun x => x = dH).T H3 H4 := by rw [e4]; exact SA.put t3.j' rfl rfl
    refine ⟨dH, H4, rfl, dp, kk _ H4 (t3.trans t4) ⟨_, _, rfl, (t0.trans (.of_same t0.j' s0')).trans (t3.trans t4), ?_⟩⟩
    rw [hearL_take hz]
    exact st4
  · obtain ⟨u, w, rfl, t2, st2⟩ := hqq
    rw [List.take_length] at st2
    have tS := (Sys.T.of_same jS (S0.same a1)).trans t2
    exact k H2 tS ⟨vF, vA, tS.k _ _ ndH hr1, rF.mono tS.tups, rA.mono tS.tups, dSt.to tS nd.2, st2⟩

end
end Ed

set_option maxHeartbeats 1000000
/-! EdWe: want_entries, called with a lambda. -/
namespace Ed
open PySem PySem.Spec PyProof.Rows L2 LamX NdefX
theorem sc_want_entries : FnScope ["thing", "is_right", "index", "entry"] ["thing", "is_right"] (defScope s_want_entries) := ⟨rfl, rfl, rfl, by decide +kernel, rfl, by decide +kernel, by decide +kernel⟩
/-- what want_entries asks of its entries and of the lambda's body tb -/
def WEr {α : Type} (ka kb : α → PyData) (tb : TE) (N : List Str) (js : List Nat) (q : Str) : L2.St → V → Addr → Hp → VK → Prop := fun σ v1 c' H Q => H c' = some (CodeO c' q) ∧ ∃ l : List α, Rep H v1 (.tuple (l.map fun e => .tuple [ka e, kb e])) ∧ l.length ≤ 1000 ∧
  (∀ (i : Nat) a b, l[i]? = some a → l[i + 1]? = some b → PySem.W.alike (ka a) (ka b) = true ∧ ka a ≠ .none ∧ pl 20 (ka a) = true ∧ pl 20 (ka b) = true ∧ PySem.W.dataLt (ka a) (ka b) = true) ∧
  (∀ e ∈ l, ∀ H1 v, Same H H1 → Rep H1 v (.tuple [ka e, kb e]) → Gv S0 tb (startF N [v] (js.map (slotAt σ))) H1 (.val (.bl true))) ∧ ∀ H', Same H H' → Q .non H'
theorem pe_we {α : Type} {ka kb : α → PyData} {X : Cx} {pn : Str} {c P : Addr} {k : Nat} {N fr : List Str} {js : List Nat} {params : Arguments} {body e1 : Expr} {scope : Scope} {te tb : TE} {p lpos pos : Pos}
    (T0 : Tx X.mg) (F : DfD X.K X.mg "want_entries" s_want_entries) (h1 : PE X e1 te) (hr : Room (k + 2) X.A) (TB : TabB X.base X.mg c P) (hcode : X.env.code = .ref c)
    (hnd : ndefB X.env.scope scope fr = true) (hjs : js.map (fun j => X.N[j]?) = fr.map some) (S : NScope N [pn] fr scope)
    (hbind : ∀ (q : Str) (cl : List (Str × Addr)) (pm cv ctv u : Value), bindArgs (PySem.W.kla_fn "<lambda>" q params body scope cl pm cv ctv) ⟨[u], []⟩ = pure [(pn, u)])
    (hbody : ∀ (A : Around) (outer : List Env) (s : Shared) (H : Hp) (F : NF) (f : Addr), F.scope = scope → Room k (A.deeper (envF F f s.heap.objs.size)) → PE (ncx CX0 X.prog X.w X.K X.mg X.base N F f A outer s H E0) body tb)
    (hg : Gl X "want_entries" := by rfl) (he1 : starEach [e1, .Lambda params body scope lpos] X.env = (false, eval e1 X.env) :: starEach [.Lambda params body scope lpos] X.env := by rfl) (hdef : defaultsOf params X.env = ([], []) := by rfl) :
    PE X (.Call (.Name "want_entries" p) [e1, .Lambda params body scope lpos] [] pos) (tLam2 P (X.env.qual ++ "<lambda>") (WEr ka kb tb N js (X.env.qual ++ "<lambda>")) te) := by
  obtain ⟨g, fdg, hm, FF⟩ := F.ex
  refine pe_lam2 (b := "thing") (a := "is_right") (Ng := ["thing", "is_right", "index", "entry"]) FF hm hg (FF.bindsN (fun _ _ _ _ _ _ us hl => match us, hl with | [_, _], _ => rfl)) sc_want_entries rfl (.inl rfl) h1 he1 TB hcode hr hdef hnd hjs S hbind hbody fun cdg f c' s H v1 Q σ hr act ⟨hc, l, rv, ln, up, en, fin⟩ => ?_
  refine ⟨_, (pss_cons (ps_if (pt_not (pt_val (pe_cb call_isi T0.isinstance boot_isinstance (pa_cons (pv 0) (pa_cons (pe_ty T0.tuple boot_tuple) pa_nil))))) pss_never pss_nil)
    (pss_one (ps_for PassesOwn.never rfl (pi_enumT (by rfl) T0.enumerate (pa_cons (pv 0) pa_nil)) (pg_tup rfl (pgs_cons (pgn 2 sc_want_entries.nd) (pgs_cons (pgn 3 sc_want_entries.nd) pgs_nil))) (pss_cons (ps_if (pt_pw (pw_or (pt_not (pt_val (pe_cb call_isi T0.isinstance boot_isinstance (pa_cons (pv 3) (pa_cons (pe_ty T0.tuple boot_tuple) pa_nil))))) (pw_or (pt_cmpR op_ne (pe_cb call_len_seq T0.len boot_len (pa_cons (pv 3) pa_nil)) pe_int (nomark _)) (pw_or1 (pt_not (pt_val (act (pa_cons (pv 3) pa_nil) rfl))))))) pss_never pss_nil)
    (pss_one (ps_if (pt_pw (pw_and (pt_cmpR op_gt (pv 2) pe_int (nomark _)) (pw_and1 (pt_not (pt_cmpR (op_ltD hr) (pe_ix ix_tup (pe_ix ix_tup (pv 0) (pe_op op_sub (pv 2) pe_int) (fun _ _ => rfl)) pe_int (fun _ _ => rfl)) (pe_ix ix_tup (pv 3) pe_int (fun _ _ => rfl)) (nomark _)))))) pss_never pss_nil)))))), ?_⟩
  have rw' : Row (PyData.tuple (l.map fun e => .tuple [ka e, kb e])) (l.map fun e => .tuple [ka e, kb e]) := .inl rfl
  refine gf_seq (S := S0) (gn_skip (gt_no (gt_B (gv_isiT (r := true) (gv_vd rfl rv) (by decide +kernel) rw')))) (gf_for (l := (List.range l.length).zip l) (gi_enumT (l := l) (ea := fun e => .tuple [ka e, kb e]) (ga_one (gv_vd rfl rv))) (fun σ' => ∃ u w, σ' = [some v1, some (.ref f), u, w]) ⟨none, none, rfl⟩ fun j z x σ' H1 hz a hq hy => ?_) H S0.r _ fun σ' H2 a2 => fin H2 (S0.same a2)
  obtain ⟨u, w, rfl⟩ := hq
  obtain ⟨T', x1, x2, rfl, hT, hx1, hx2⟩ := hy
  have ex1 : x1 = .int (z.1 : Int) := hx1
  subst ex1
  have hx2 : Rep H1 x2 (.tuple [ka z.2, kb z.2]) := hx2
  obtain ⟨g1, g2⟩ := List.getElem?_zip_eq_some.mp hz
  have jl := (List.getElem?_eq_some_iff.mp g2).1
  have ez : z.1 = j := by rw [List.getElem?_range jl] at g1; exact (Option.some.inj g1).symm
  have hzm := List.mem_of_getElem? g2
  have rwz : Row (PyData.tuple [ka z.2, kb z.2]) [ka z.2, kb z.2] := .inl rfl
  have rv1 := rv.mono a.tups
  refine ⟨[some v1, some (.ref f), some (.int (z.1 : Int)), some x2], fun _ q => g2_ok hT q, ⟨_, _, rfl⟩, gn_seq (gn_skip ((gt_or (b := false) (c := false) (gt_no (gt_B (gv_isiT (r := true) (gv_vd rfl hx2) (by decide +kernel) rwz))) fun _ => gt_or (b := false) (c := false) ((gt_test (gv_op (gv_lenT (gv_vd rfl hx2) rwz) gv_int (rg_ne rfl))).cast rfl) fun _ => gt_no (gt_B fun H2 a2 Q k => ⟨rfl, x2, rfl, S0.same (a.trans a2) _ _ hc, x2, rfl, en z.2 hzm H2 x2 (S0.same (a.trans a2)) (hx2.mono a2.tups) H2 S0.r Q k⟩)))) (gn_skip ((gt_and (b := decide ((0 : Int) < (z.1 : Int))) (c := false) (gt_test (gv_op (gv_val rfl) gv_int rg_I0)) fun hpos => ?_).cast (by simp)))⟩
  have hpos := of_decide_eq_true hpos
  obtain ⟨m, rfl⟩ : ∃ m, j = m + 1 := ⟨j - 1, by omega⟩
  have hm' : m < l.length := by omega
  have gm : l[m]? = some l[m] := List.getElem?_eq_getElem hm'
  obtain ⟨u1, u2, u3, u4, u5⟩ := up m l[m] z.2 gm g2
  refine gt_no ((gt_test (gv_op (gv_ixT (i := 0) (ds := [ka l[m], kb l[m]]) (gv_ixT (i := m) (ds := l.map fun e => PyData.tuple [ka e, kb e]) (gv_vd rfl rv1) (gv_op (gv_val rfl) gv_int rg_I0) (by omega) (by rw [List.getElem?_map, gm]; rfl)) gv_int rfl rfl) (gv_ixT (i := 0) (ds := [ka z.2, kb z.2]) (gv_vd rfl hx2) gv_int rfl rfl) (rg_ltD u1 u2 u3 u4))).cast u5)
end Ed

set_option maxHeartbeats 1000000
/-! EdTk: methods that make lambdas. -/
namespace Ed
open PySem PySem.Spec PyProof.Rows L2 LamX NdefX
/-- a method whose code object is the one at c -/
structure DfT (K : PySem.W.Frag) (C : Addr) (m q : Str) (st : Stmt) (c : Addr) : Prop where
  ex : ∃ (f : Addr) (fd : FuncData), Meth K C m f ∧ FunD K m q (defArgs st) (defBody st) (defScope st) [] [] f fd ∧ ∀ a, fd.code = .ref a → a = c
section
variable {P : Program} {w : World} {K : PySem.W.Frag} {mg : Str → Option Value} {base : Heap}
theorem md_ofT {C c : Addr} {m qn : Str} {st : Stmt} {N ps : List Str} {k : Nat} {sp : Sp} (cl : Cls K C) (F : DfT K C m qn st c) (S : FnScope N ps (defScope st))
    (hb : ∀ (kV doc pm : Value) (an : Option Addr) (cdv ct : Value) (us : List Value), us.length = ps.length → bindArgs (PySem.W.fnOf m qn (defArgs st) (defBody st) (defScope st) .none kV doc pm an cdv ct) ⟨us, []⟩ = pure (ps.zip us))
    (len : ∀ vs H Q E, sp vs H Q E → vs.length = ps.length)
    (hbody : ∀ (f : Addr) (A : Around) (outer : List Env) (s : Shared) (H : Hp) (vs : List V) (Q : VK) (E : XK), Room k (A.deeper (envOfC qn (defScope st) s.heap.objs.size f (.ref c))) → sp vs H Q E →
      ∃ t, PSs (cxOf CX0 P w K mg base N qn (defScope st) f (.ref c) A outer s H E).nox (defBody st) t ∧ t { nx := fun _ H' => Q .non H', rt := Q } (L2.start N vs) H) : Md P w K mg base C m (k + 1) sp := by
  obtain ⟨f, fd, h1, F, hc⟩ := F.ex
  refine ⟨f, fd, ps, cl, h1, F.bindsN hb, ?_⟩
  obtain ⟨oc, od, dV, kV, doc, pm, an, cdv, ct, osl, rfl, lk, hcd, _, _⟩ := F.ex
  obtain ⟨a, rfl⟩ := He.codeIn_ref hcd
  have ea : a = c := hc a rfl
  subst ea
  refine fn_of lk hcd S len fun A outer s H vs Q E hr hsp => ?_
  obtain ⟨t, h, q⟩ := hbody f A outer s H vs Q E hr hsp
  exact ⟨t, h.nox, q⟩
end
def qT : Str := (envOfC "Replica.take" (defScope s_Replica_take) 0 0 .none).qual ++ "<lambda>"
def qH : Str := (envOfC "Replica.hear" (defScope s_Replica_hear) 0 0 .none).qual ++ "<lambda>"
end Ed

set_option maxHeartbeats 1000000
/-! EdD10: take, hear. -/
namespace Ed
open PySem PySem.Spec PyProof.Rows L2 LamX NdefX
section
variable {P : Program} {w : World} {K : PySem.W.Frag} {mg : Str → Option Value} {base : Heap}
variable {C : Addr}
theorem Grow.t {P : Addr} {q : Str} {H H1 : Hp} (g : Grow P q H H1) (t : TabS H P q) (t1 : TabS H1 P q) : (SA fun x => x = P).T H H1 := by
  obtain ⟨ps, h, _⟩ := t
  obtain ⟨ps1, h1, _⟩ := t1
  refine ⟨fun x m => ⟨_, (show x = P from m) ▸ h, rfl⟩, fun x m => ⟨_, (show x = P from m) ▸ h1, rfl⟩, fun a o n e => ?_⟩
  rcases g with rfl | ⟨ps, more, c, _, hc, rfl⟩
  · exact e
  · rw [upd_ne (ne_of_none e hc), upd_ne fun z => n z]
    exact e
theorem TabS.to {S : Sys} {P : Addr} {q : Str} {H H1 : Hp} (t : TabS H P q) (a : S.T H H1) (n : ¬ S.M P) : TabS H1 P q := by
  obtain ⟨ps, h1, h2, h3⟩ := t
  refine ⟨ps, a.k _ _ n h1, h2, fun pos cv hc => ?_⟩
  obtain ⟨c, e1, e2⟩ := h3 pos cv hc
  refine ⟨c, e1, a.k _ _ (fun m => ?_) e2⟩
  obtain ⟨o, g, z⟩ := S.mt _ _ a.j m
  rw [e2] at g
  cases g
  cases z
theorem RAt.neT {H : Hp} {r dS dH P : Addr} {q : Str} {s : RSt} (h : RAt C H r dS dH s) (t : TabS H P q) : r ≠ P ∧ dS ≠ P ∧ dH ≠ P := by
  obtain ⟨dx, vF, vA, h1, _, _, ⟨kvs, h4, _⟩, ⟨kvs', h5, _⟩⟩ := h
  obtain ⟨ps, h6, _⟩ := t
  exact ⟨fun e => (by rw [e, h6] at h1; cases h1), fun e => (by rw [e, h6] at h4; cases h4), fun e => (by rw [e, h6] at h5; cases h5)⟩
/-- a tuple of pairs, walked -/
theorem gi_pairs {α : Type} {S : Sys} {σ : L2.St} {H : Hp} {tl : TE} {l : List α} {ka kb : α → PyData} (h : Gv S tl σ H (.dat (.tuple (l.map fun e => .tuple [ka e, kb e])))) : GvI S (iTup K tl) σ H fun J H1 => WkL S J l (fun z v H => ∃ T a b, v = .ref T ∧ H T = some (.tup [a, b]) ∧ Rep H a (ka z) ∧ Rep H b (kb z)) H1 := fun H1 a R k =>
  gi_tup (enc := fun e => .tuple [ka e, kb e]) h (.inl rfl) H1 a R fun J H2 a2 w => k J H2 a2 ⟨w.go, w.stop, fun i x H' H'' hi t y => by
    obtain ⟨q1, q2, z, hz, hy⟩ := w.yld i x H' H'' hi t y
    exact ⟨q1, q2, z, hz, pair_at hy⟩⟩
def Like (s : RSt) (p : Log) : Prop := ∀ e ∈ p, (e.1 ∈ keys s.log → lkD s.log e.1 = e.2) ∧ (e.1 ∉ keys s.log → e.1 / 400 ≠ s.i)
def due (s : RSt) (p : Log) : List Nat := (p.filter fun e => decide (e.1 ∉ keys s.log)).map (·.1)
def sp_Replica_take (C Pt : Addr) : Sp := fun vs H Q _ => ∃ (r dS dH : Addr) (s : RSt) (v : V) (p : Log), vs = [.ref r, v] ∧ RAt C H r dS dH s ∧ RO s ∧ Rep H v (packD p) ∧ PkOk s.fs p ∧ p.length ≤ 40 ∧ Like s p ∧ TabS H Pt qT ∧
  ∀ v H', (SA fun x => x = dS ∨ x = Pt).T H H' → RAt C H' r dS dH { s with log := takeL s.log p } → TabS H' Pt qT → Rep H' v (idsD (due s p)) → Q v H'
def sp_Replica_hear (C Ph : Addr) : Sp := fun vs H Q _ => ∃ (r dS dH : Addr) (s : RSt) (v : V) (h : Hds), vs = [.ref r, v] ∧ RAt C H r dS dH s ∧ RO s ∧ Rep H v (headsD h) ∧ s.hs.length ≤ 20 ∧ h.length ≤ 20 ∧ (h.map (·.1)).Pairwise (fun a b => PySem.W.dataLt (.str a) (.str b) = true) ∧ (∀ e ∈ h, okName e.1 = true ∧ PyData.strOk e.1 = true ∧ Lot e.2 ∧ e.2.length ≤ 25 ∧ ∀ c ∈ e.2, c ∈ keys s.log) ∧ (∀ e ∈ s.hs, Lot e.2 ∧ ∀ c ∈ e.2, c ∈ keys s.log) ∧ (keys s.log).length ≤ 30 ∧ TabS H Ph qH ∧
  ∀ H', (SA fun x => x = dH ∨ x = Ph).T H H' → RAt C H' r dS dH { s with hs := hearL s.hs h } → TabS H' Ph qH → Q .non H'

theorem sc_Replica_take : FnScope ["self", "packet", "one", "steps", "found", "_"] ["self", "packet"] (defScope s_Replica_take) := ⟨rfl, rfl, rfl, by decide +kernel, rfl, by decide +kernel, by decide +kernel⟩
theorem ok_Replica_take {Pt ct : Addr} (G_is_id : Gd P w K mg base "is_id" 4 sp_is_id) (G_is_amounts : Gd P w K mg base "is_amounts" 6 sp_is_amounts) (T : Tx mg) (cl : RCl K C) (F : DfT K C "take" "Replica.take" s_Replica_take ct) (W : DfD K mg "want_entries" s_want_entries) (TB : TabB base mg ct Pt) (M_Replica_is_unlike : Md P w K mg base C "is_unlike" 1 (sp_Replica_is_unlike C)) : Md P w K mg base C "take" 9 (sp_Replica_take C Pt) := md_ofT (N := ["self", "packet", "one", "steps", "found", "_"]) cl.c F sc_Replica_take (fun _ _ _ _ _ _ us hl => match us, hl with | [_, _], _ => rfl) (fun vs H Q E h => by
  obtain ⟨r, dS, dH, s, v, p, rfl, _⟩ := h
  rfl) fun f A outer s0 H vs Q E hr hsp => by
  obtain ⟨r, dS, dH, s, v, p, rfl, hR, o, rp, pk, p40, lik, tab, k⟩ := hsp
  refine ⟨_, (pss_cons (ps_expr (pe_we (k := 6) (pn := "entry") (ka := fun e : Nat × Am => idD e.1) (kb := fun e : Nat × Am => amD e.2) (N := ["entry", "self"]) (fr := ["self"]) (js := [0]) (tb := (tAndV (tCall sp_is_id [] E0 (tCons (tOp (rIxT K) (tVar 0) (tC (.int 0))) tNil)) (tCall sp_is_amounts [] E0 (tCons (tFld K (tVar 1) "fields") (tCons (tOp (rIxT K) (tVar 0) (tC (.int 1))) tNil))))) T W (pv 1) (hr.mono (by decide)) TB rfl (by show ndefB (defScope s_Replica_take) _ _ = true; decide +kernel) rfl (nscope_by (by decide +kernel)) (fun _ _ _ _ _ _ => rfl) (fun A outer s H ⟨_, _, _, _, _, _, _⟩ f e hr => by cases e; exact (pe_and (pe_gd G_is_id hr (pa_cons (pe_ix ix_tup (pv 0) pe_int (fun _ _ => rfl)) pa_nil)) (pe_one (pe_gd G_is_amounts hr (pa_cons (pe_fld (pv 1) rfl) (pa_cons (pe_ix ix_tup (pv 0) pe_int (fun _ _ => rfl)) pa_nil))))))))
    (pss_cons (ps_for PassesOwn.never rfl (pi_tup (pv 1)) (pg_tup rfl (pgs_cons (pgn 2 sc_Replica_take.nd) (pgs_cons (pgn 3 sc_Replica_take.nd) pgs_nil))) (pss_one (ps_if (pt_val (pe_md M_Replica_is_unlike hr (pv 0) (pa_cons (pv 2) (pa_cons (pv 3) pa_nil)))) pss_never pss_nil)))
    (pss_cons (psn 4 sc_Replica_take.nd (pe_ct call_tuple_of T.tuple boot_tuple (pa_cons (pe_lc (own := [("one", 2), ("_", 5)]) (g := (g2 K 2 5)) (tt := (tB (tDNotIn (tVar 2) (tFld K (tVar 0) "steps")))) (te := (tVar 2)) rfl sc_Replica_take.nd (pi_tup (pv 1)) (blkOk_by (N := ["self", "packet", "one", "steps", "found", "_"]) (sc := defScope s_Replica_take) (by decide +kernel)) (fun _ _ _ _ _ => (pg_tup rfl (pgs_cons (pgn 2 sc_Replica_take.nd) (pgs_cons (pgn 5 sc_Replica_take.nd) pgs_nil)))) (fun _ _ _ _ _ => (pts_one (pt_cmp (pc_dnotin (hu_of hr) (pv 2) (pe_fld (pv 0) rfl))))) (fun _ _ _ _ _ => (pv 2))) pa_nil)))
    (pss_cons (ps_for PassesOwn.never rfl (pi_tup (pv 1)) (pg_tup rfl (pgs_cons (pgn 2 sc_Replica_take.nd) (pgs_cons (pgn 3 sc_Replica_take.nd) pgs_nil))) (pss_one (ps_dput (hu_of hr) (pe_fld (pv 0) rfl) (pv 2) (pv 3) rfl)))
    (pss_one (ps_ret (pv 4))))))), ?_⟩
  have neT := hR.neT tab
  have ne := hR.ne
  have nd := hR.ned
  have jT : (SA fun x => x = dS ∨ x = Pt).J H := fun x m => by
    rcases m with rfl | rfl
    · exact hR.j _ (.inr (.inl rfl))
    · obtain ⟨ps, h, _⟩ := tab
      exact ⟨_, h, rfl⟩
  refine ⟨v, rfl, tab, fun H1 c' grow tab1 hc => ?_⟩
  have g1 := grow.t tab tab1
  have hR1 := hR.to g1 neT.1 neT.2.1 neT.2.2
  have rp1 := rp.mono g1.tups
  refine ⟨hc, p, rp1, by omega, fun i a b ha hb => ?_, fun e he H2 v2 s2 rv2 => ?_, fun H2 s2 => ?_⟩
  · have m1 : (p.map (·.1))[i]? = some a.1 := by rw [List.getElem?_map, ha]; rfl
    have m2 : (p.map (·.1))[i + 1]? = some b.1 := by rw [List.getElem?_map, hb]; rfl
    have lt := pw_get pk.up m1 m2
    exact ⟨id_alike _ _, fun e => (nomatch e), pl_id, pl_id, by rw [id_lt (pk.id _ (List.mem_of_getElem? ha)) (pk.id _ (List.mem_of_getElem? hb))]; exact decide_eq_true lt⟩
  · obtain ⟨dx, vF, vA, hr1, rF, _⟩ := hR1.same s2
    exact gv_andV (b := true) (c := true) (gv_call e.1 (ga_one (gv_ixT (i := 0) (ds := [idD e.1, amD e.2]) (gv_vd rfl rv2) gv_int rfl rfl)) (pk.id e he)) fun _ => gv_call (ι := List Kd × List (List Int)) (s.fs, e.2) (ga_two (gv_fldD (gv_val rfl) (fun H3 t => S0.same t _ _ hr1) cl.c cl.fields l_fields rF) (gv_ixT (i := 1) (ds := [idD e.1, amD e.2]) (gv_vd rfl rv2) gv_int rfl rfl)) ⟨o.fs, pk.am e he⟩
  have hR2 := hR1.same s2
  have rp2 := rp1.mono (Same.tups s2)
  have t2 : (SA fun x => x = dS ∨ x = Pt).T H H2 := (SA.mono g1 (fun x e => .inr e) jT).trans (.of_same (SA.mono g1 (fun x e => .inr e) jT).j' s2)
  have tab2 : TabS H2 Pt qT := TabS.to (S := S0) tab1 (S0.of s2) fun m => m
  obtain ⟨dx, vF, vA, hr1, rF, rA, dSt, dHd⟩ := id hR2
  dsimp only
  have two : ∀ {H' : Hp} {z : Nat × Am} {x : V}, YD (fun e : Nat × Am => .tuple [idD e.1, amD e.2]) z x H' → ∃ t a b, x = .ref t ∧ H' t = some (.tup [a, b]) ∧ Rep H' a (idD z.1) ∧ Rep H' b (amD z.2) := fun h => pair_at h
  -- nothing is unlike
  refine loop_at (S := S0) (l := p) (gi_tupA (enc := fun e : Nat × Am => .tuple [idD e.1, amD e.2]) (gv_vd (i := 1) rfl rp2)) trivial (fun i σ' H' => S0.T H2 H' ∧ ∃ a b, σ' = [some (.ref r), some v, a, b, none, none]) (fun H3 s3 => ⟨S0.of s3, none, none, rfl⟩) (fun i z x σ' H3 hz a3 hq hy => ?_) fun σ' H3 a3 hq => ?_
  · obtain ⟨H0, ⟨_, a, b, rfl⟩, _⟩ := hq
    obtain ⟨t, va, vb, rfl, ht, ra, rb⟩ := two hy
    have hzm := List.mem_of_getElem? hz
    have un : unl s z.1 z.2 = false := by
      unfold unl
      split
      · rename_i c
        exact decide_eq_false fun q => q ((lik z hzm).1 c)
      · rename_i c
        exact decide_eq_false ((lik z hzm).2 c)
    refine ⟨[some (.ref r), some v, some va, some vb, none, none], fun Q qq => g2_ok ht qq, fun D' _ kk _ => ?_⟩
    refine gn_skip (S := S0) ?_ H3 a3.fin D' fun H4 a4 => kk _ H4 a4 ⟨a3.trans a4, _, _, rfl⟩
    exact GvT.cast (gt_B (gv_meth (args := fun _ i => [.dat (idD i.1), .dat (amD i.2)]) (pre := fun s i => i.1 < 1200) (res := fun s i => .val (.bl (unl s i.1 i.2))) z (gv_val rfl) (fun H4 t4 => hR2.same (S0.same (a3.trans t4))) (ga_two (gv_vd rfl ra) (gv_vd rfl rb)) o (pk.id z hzm))) un
  obtain ⟨_, a0, b0, rfl⟩ := hq
  dsimp only
  -- found
  refine gx_set (S := S0) (Gv.ge (o := .dat (idsD (due s p))) ((gv_tupleL (ds := (due s p).map idD) ((gl_lc2 (lp := p) (Ya := YD idD) (Yb := YD amD) (keep := fun e => decide (e.1 ∉ keys s.log)) (f := fun e => Ob.dat (idD e.1)) (gi_pairs (K := K) (gv_vd (i := 1) rfl (rp2.mono a3.tups))) (by omega) (fun _ _ => rfl) fun j z x y H4 hz a4 hx hy => ?_).cast (by rw [due, List.map_map, List.map_map]; rfl))).cast rfl)) H3 a3.fin _ ?_
  · have a34 := a3.trans a4
    exact ⟨gt_B (gv_dninT (gv_vd rfl hx) (gv_fld (gv_val rfl) (fun H5 t5 => S0.same (a34.trans t5) _ _ hr1) cl.c cl.steps l_steps rfl) (fun H5 t5 => dSt.same (S0.same (a34.trans t5))) o.log (pk.id z (List.mem_of_getElem? hz))), fun _ => gv_vd rfl hx⟩
  rintro _ H4 a4 ⟨vd, rd, rfl⟩
  have rd : Rep H4 vd (idsD (due s p)) := rd
  have a24 := a3.trans a4
  dsimp only
  have t4 : (SA fun x => x = dS ∨ x = Pt).T H H4 := t2.trans (.of_same t2.j' (S0.same a24))
  have st4 := dSt.same (S0.same a24)
  have j4 : (SA fun x => x = dS).J H4 := fun x m => by
    obtain ⟨kvs, h1, _⟩ := st4
    exact ⟨_, (show x = dS from m) ▸ h1, rfl⟩
  refine loop_at (S := SA fun x => x = dS) (l := p) (gi_tupA (enc := fun e : Nat × Am => .tuple [idD e.1, amD e.2]) (gv_vd (i := 1) rfl (rp2.mono a24.tups))) j4
    (fun i σ' H' => ∃ u w, σ' = [some (.ref r), some v, u, w, some vd, none] ∧ (SA fun x => x = dS).T H4 H' ∧ StD H' dS (takeL s.log (p.take i))) (fun H5 s5 => ⟨_, _, rfl, .of_same j4 s5, st4.same s5⟩) (fun i z x σ' H5 hz a5 hq hy => ?_) fun σ' H5 a5 hq => ?_
  · obtain ⟨H0, ⟨u, w, rfl, t0, st0⟩, s0'⟩ := hq
    have st0 := st0.same s0'
    obtain ⟨t, va, vb, rfl, ht, ra, rb⟩ := two hy
    have hzm := List.mem_of_getElem? hz
    have okt : LogOk s.fs (takeL s.log (p.take i)) := takeL_ok o.log (fun e he => pk.id e (List.mem_of_mem_take he)) fun e he => pk.am e (List.mem_of_mem_take he)
    have lent : (takeL s.log (p.take i)).length ≤ 100 := by
      have h1 := takeL_len (p := p.take i) (log := s.log)
      have h2 : (p.take i).length ≤ p.length := List.length_take_le' _ _
      have := o.few
      omega
    refine ⟨[some (.ref r), some v, some va, some vb, some vd, none], fun Q qq => g2_ok ht qq, fun D' _ kk _ => ?_⟩
    have hr5 : H5 r = some (.ins C dx (insF (hnd s.i) vF vA dS s.m dH)) := a5.k _ _ ne.1 (S0.same a24 _ _ hr1)
    refine ⟨vb, rfl, Gv.fin (S := S0) (gv_fld (o := .val (.ref dS)) (gv_val (σ := [some (.ref r), some v, some va, some vb, some vd, none]) (i := 0) rfl) (fun H6 t6 => S0.same t6 _ _ hr5) cl.c cl.steps l_steps rfl) trivial fun v' H6 a6 ev => ?_⟩
    have ev : v' = .ref dS := ev
    subst ev
    obtain ⟨b, rfl, hb⟩ := id_at (ra.mono a6.tups)
    refine ⟨_, rfl, ?_⟩
    obtain ⟨H7, dp, ⟨kvs, e7⟩, st7⟩ := std_put (Q := fun H7 => (∃ kvs, H7 = upd H6 dS (.dT kvs)) ∧ StD H7 dS (pt (takeL s.log (p.take i)) z.1 z.2)) (st0.same (S0.same a6)) okt lent (pk.id z hzm) (rb.mono a6.tups) hb fun kvs st => ⟨⟨kvs, rfl⟩, st⟩
    have t6 : (SA fun x => x = dS).T H5 H6 := .of_same a5.j' (S0.same a6)
    have t7 : (SA fun x => x = dS).T H6 H7 := by rw [e7]; exact SA.put t6.j' rfl rfl
    refine ⟨dS, H7, rfl, dp, kk _ H7 (t6.trans t7) ⟨_, _, rfl, (t0.trans (.of_same t0.j' s0')).trans (t6.trans t7), ?_⟩⟩
    rw [takeL_take hz]
    exact st7
  · obtain ⟨u, w, rfl, t5, st5⟩ := hq
    rw [List.take_length] at st5
    have tf := t4.trans (SA.mono t5 (fun x e => .inl e) t4.j')
    have t25 := (Sys.T.of_same (S := SA fun x => x = dS) (SA.mono (M1 := fun x => x = dS) (M2 := fun x => x = dS) (.of_same (fun x m => by
      obtain ⟨kvs, h1, _⟩ := dSt
      exact ⟨_, (show x = dS from m) ▸ h1, rfl⟩) (S0.same a24)) (fun _ e => e) (fun x m => by
      obtain ⟨kvs, h1, _⟩ := dSt
      exact ⟨_, (show x = dS from m) ▸ h1, rfl⟩)).j (S0.same a24)).trans t5
    exact ⟨vd, rfl, k vd H5 tf ⟨dx, vF, vA, t25.k _ _ ne.1 hr1, rF.mono t25.tups, rA.mono t25.tups, st5, dHd.to t25 fun e => nd (show dH = dS from e).symm⟩ (TabS.to tab2 t25 fun e => neT.2.1 (show Pt = dS from e).symm) (rd.mono t5.tups)⟩

end
end Ed

set_option maxHeartbeats 2000000
/-! EdTs: a set of tuples of ints and texts: the search, adding. -/
namespace Ed
open PySem PySem.Spec PyProof.Rows L2
section
variable {P : Program} {w : World} {A : Around} {E : Value → Shared → Prop} {s : Shared}
/-- the tuple at b has the keys k -/
abbrev TkIs (P : Program) (w : World) (h : Heap) (k : List Key) (b : Addr) : Prop := IsTupleKey (mixKind P w) h k b
abbrev tkH (P : Program) (w : World) (k : List Key) : Int := tupleKeyHash (mixKind P w) k
/-- an int or a text -/
def Flat (v : Value) : Prop := (∃ i t, v = .int i t) ∨ ∃ x t, v = .str x t
theorem flat_of {k : List Key} {vs : List Value} (h : ItemsAre (mixKind P w) k vs) : ∀ v ∈ vs, Flat v := by
  induction h with
  | nil => exact fun v hv => nomatch hv
  | cons h1 _ ih =>
    intro v hv
    rcases List.mem_cons.mp hv with rfl | hv
    · rcases keyIs_shape h1 with ⟨i, t, _, e⟩ | ⟨x, t, _, e⟩
      · exact .inl ⟨i, t, e⟩
      · exact .inr ⟨x, t, e⟩
    · exact ih v hv
theorem Flat.cls {v : Value} (h : Flat v) (n : Nat) : ofAClassStatement n v = pure false := by
  rcases h with ⟨i, t, rfl⟩ | ⟨x, t, rfl⟩ <;> cases n <;> rfl
theorem Flat.hash {v : Value} (h : Flat v) (n : Nat) : ∃ b, hashByValue n v = pure b := by
  rcases h with ⟨i, t, rfl⟩ | ⟨x, t, rfl⟩
  · exact ⟨true, by cases n <;> rfl⟩
  · exact ⟨false, by cases n <;> rfl⟩
theorem tk_cls {k : List Key} {b : Addr} {Q : Bool → Shared → Prop} (hk : TkIs P w s.heap k b) (h : Q false s) : wpAny (model P w) A (ofAClassStatement 8 (.ref b)) Q E s := by
  obtain ⟨o, its, n, ho, hc, hd, hi⟩ := id hk
  have tt : (("tuple" : String) == "tuple") = true := by decide
  unfold ofAClassStatement
  refine wpAny_bind (wpAny_typeOf (T := "tuple") ⟨o, ho, hc⟩ ?_)
  dsimp only
  simp only [tt, if_true, Bool.not_true, Bool.false_eq_true, if_false]
  try refine wpAny_bind (wpAny_pure ?_)
  try simp only [Bool.not_true, Bool.false_eq_true, if_false]
  show wpAny _ _ (seqItems? (.ref b) >>= _) _ _ s
  refine wpAny_bind (wpAny_seqItems ho hd ?_)
  dsimp only
  refine wpAny_bind ?_
  show wpAny _ _ (forIn its _ _) _ _ s
  rw [← Array.forIn_toList]
  refine wpAny_forIn_list _ (fun l r s1 => s1 = s ∧ r.1 = none ∧ ∀ v ∈ l, Flat v) _ (fun v l r s1 hl => ?_) (fun r s1 hl => ?_) _ _ ⟨rfl, rfl, flat_of hi⟩
  · obtain ⟨rfl, hr, hv⟩ := hl
    rw [(hv v List.mem_cons_self).cls]
    exact wpAny_bind (wpAny_pure (wp_if_neg Bool.false_ne_true (wpAny_pure ⟨rfl, rfl, fun u hu => hv u (List.mem_cons_of_mem _ hu)⟩)))
  · obtain ⟨rfl, hr, _⟩ := hl
    obtain ⟨r1, r2⟩ := r
    obtain rfl : r1 = none := hr
    exact wpAny_pure h
theorem tk_hash {k : List Key} {b : Addr} {Q : Bool → Shared → Prop} (hk : TkIs P w s.heap k b) (h : ∀ c, Q c s) : wpAny (model P w) A (hashByValue 8 (.ref b)) Q E s := by
  obtain ⟨o, its, n, ho, hc, hd, hi⟩ := id hk
  unfold hashByValue
  refine wpAny_bind (wpAny_specialOf (hk.typeIs) F.slot_tuple_hash.lookup ?_)
  show wpAny _ _ (seqItems? (.ref b) >>= _) _ _ s
  refine wpAny_bind (wpAny_seqItems ho hd ?_)
  refine wpAny_bind ?_
  show wpAny _ _ (forIn its _ _) _ _ s
  rw [← Array.forIn_toList]
  refine wpAny_forIn_list _ (fun l r s1 => s1 = s ∧ r.1 = none ∧ ∀ v ∈ l, Flat v) _ (fun v l r s1 hl => ?_) (fun r s1 hl => ?_) _ _ ⟨rfl, rfl, flat_of hi⟩
  · obtain ⟨rfl, hr, hv⟩ := hl
    obtain ⟨c, e⟩ := (hv v List.mem_cons_self).hash 7
    rw [e]
    refine wpAny_bind (wpAny_pure ?_)
    cases c with
    | true => exact wp_if_neg (by simp) (wpAny_pure ⟨rfl, rfl, fun u hu => hv u (List.mem_cons_of_mem _ hu)⟩)
    | false => exact wp_if_pos rfl (wpAny_pure (wpAny_pure (h false)))
  · obtain ⟨rfl, hr, _⟩ := hl
    obtain ⟨r1, r2⟩ := r
    obtain rfl : r1 = none := hr
    exact wpAny_pure (h true)
/-- a search among tuples shows nothing -/
theorem tk_seen {k : List Key} {b : Addr} {Q : Bool → Shared → Prop} (hk : TkIs P w s.heap k b) {ys : List Value} (hy : ∀ y ∈ ys, ∃ k' c, y = Value.ref c ∧ TkIs P w s.heap k' c) (h : Q false s) :
    wpAny (model P w) A (searchCouldBeSeen (.ref b) ys) Q E s := by
  unfold searchCouldBeSeen
  refine wpAny_bind (wpAny_forIn_list _ (fun l r s1 => s1 = s ∧ r.1 = none ∧ ∀ y ∈ l, ∃ k' c, y = Value.ref c ∧ TkIs P w s.heap k' c) _ (fun v l r s1 hl => ?_) (fun r s1 hl => ?_) _ _ ⟨rfl, rfl, hy⟩)
  · obtain ⟨rfl, hr, hv⟩ := hl
    obtain ⟨k', c, rfl, hc⟩ := hv v List.mem_cons_self
    have next : ∀ y ∈ l, ∃ k' c, y = Value.ref c ∧ TkIs P w s1.heap k' c := fun u hu => hv u (List.mem_cons_of_mem _ hu)
    dsimp only
    by_cases q : (b == c || (carriedByValue (.ref b) && carriedByValue (.ref c))) = true
    · exact wp_if_pos q (wpAny_pure ⟨rfl, rfl, next⟩)
    · refine wp_if_neg q (wpAny_bind (wpAny_eqIsQuiet_tuple hk ?_))
      refine wp_if_neg (by simp) (wpAny_bind (wpAny_eqIsQuiet_tuple hc ?_))
      refine wp_if_neg (by simp) (wpAny_bind (tk_cls hk ?_))
      refine wp_if_neg (by simp) (wpAny_bind (tk_cls hc ?_))
      exact wp_if_neg (by simp) (wpAny_pure ⟨rfl, rfl, next⟩)
  · obtain ⟨rfl, hr, _⟩ := hl
    obtain ⟨r1, r2⟩ := r
    obtain rfl : r1 = none := hr
    exact wpAny_pure h
end
end Ed

set_option maxHeartbeats 2000000
/-! EdTs2: the search in a set of tuples. -/
namespace Ed
open PySem PySem.Spec PyProof.Rows L2
section
variable {P : Program} {w : World} {A : Around} {E : Value → Shared → Prop} {s : Shared}
/-- a row of the set: the tuple's address and keys -/
abbrev TkL := List (Addr × List Key)
def tkRow (P : Program) (w : World) (p : Addr × List Key) : Int × Value := (tkH P w p.2, .ref p.1)
/-- the set at a has the tuples of L, in its table's order -/
structure TSet (P : Program) (w : World) (h : Heap) (a : Addr) (L : TkL) (es : Array (Int × Value)) (ep : Nat) (t : SetTable) : Prop where
  ob : ∃ o, h.get? a = some o ∧ o.ExactSet ∧ o.data = .set es ep t
  es : es.toList = L.map (tkRow P w)
  ok : TabOk t (L.map fun p => tkH P w p.2)
  nd : (L.map (·.2)).Nodup
  at_ : ∀ p ∈ L, TkIs P w h p.2 p.1
  led : w.params.followText "set-order" = true ∨ t.led = true
  room : L.length * 5 < t.mask * 3
  few : L.length < 64
variable {a : Addr} {L : TkL} {es : Array (Int × Value)} {ep : Nat} {t : SetTable}
theorem TSet.size (R : TSet P w s.heap a L es ep t) : es.size = L.length := by
  rw [← Array.length_toList, R.es, List.length_map]
theorem TSet.places (R : TSet P w s.heap a L es ep t) : t.place.size = L.length := by rw [R.ok.sz, List.length_map]
theorem tab_fits {t : SetTable} {es : Array (Int × Value)} (h1 : t.place.size = es.size) (h2 : t.dummies = #[]) (h3 : es.size ≤ t.mask) : t.fits es.size = true := by
  unfold SetTable.fits SetTable.fill
  rw [h2, Bool.and_eq_true, beq_iff_eq, decide_eq_true_eq]
  exact ⟨h1, by show t.place.size + 0 ≤ t.mask; omega⟩
theorem TSet.fits (R : TSet P w s.heap a L es ep t) : t.fits es.size = true :=
  tab_fits (by rw [R.places, R.size]) R.ok.dm (by have := R.size; have := R.room; omega)
theorem TSet.row (R : TSet P w s.heap a L es ep t) {i : Nat} {p : Addr × List Key} (h : L[i]? = some p) : es[i]? = some (tkRow P w p) := by
  rw [← Array.getElem?_toList, R.es, List.getElem?_map, h]
  rfl
theorem odd_way {t : SetTable} (h : MaskOk t.mask) : ¬ t.gaveWay = true := by
  unfold SetTable.gaveWay
  rw [mask_odd h]
  decide
/-- the c-th probe of a hash -/
abbrev prb (t : SetTable) (h : Int) (c : Nat) : SetTable.Probe := nth t.mask (runAt t.mask (SetTable.bits h % (t.mask + 1)) (SetTable.bits h)) c
theorem prb_add (t : SetTable) (h : Int) (c q : Nat) : nth t.mask (prb t h c) q = prb t h (c + q) := (nth_add t.mask c _ q).symm
theorem prb_dm (t : SetTable) (h : Int) : ∀ c, (prb t h c).dummy = none := by
  have key : ∀ (n : Nat) (p : SetTable.Probe), p.dummy = none → (nth t.mask p n).dummy = none := by
    intro n
    induction n with
    | zero => exact fun p e => e
    | succ n ih =>
      intro p e
      refine ih _ ?_
      unfold adv
      split
      · exact e
      · exact e
  exact fun c => key c _ rfl
/-- no slot before the c-th has the key k -/
def Past (t : SetTable) (L : TkL) (h : Int) (k : List Key) (c : Nat) : Prop := ∀ d, d < c → ∀ (i : Nat) (p : Addr × List Key), t.place.toList[i]? = some (way t.mask h d) → L[i]? = some p → p.2 ≠ k
theorem tk_search (R : TSet P w s.heap a L es ep t) {x : Addr} {k : List Key} (hx : TkIs P w s.heap k x) (hu : A.units < cLine) {N : Nat} (hN : N < 10 * SetTable.turns t.mask) (hE : way t.mask (tkH P w k) N ∉ t.place.toList)
    (hB : ∀ d, d < N → way t.mask (tkH P w k) d ∈ t.place.toList) {Q : SetFound → Shared → Prop} (yes : k ∈ L.map (·.2) → Q (.there none) s) (no : k ∉ L.map (·.2) → Q (.free (way t.mask (tkH P w k) N) false) s) :
    ∀ (n c : Nat) (st : Option SetTable.Probe), st.getD (t.probeStart (tkH P w k)) = prb t (tkH P w k) c → c ≤ N → N - c < n → Past t L (tkH P w k) k c → wpAny (model P w) A (setSearchFrom a (.ref x) (tkH P w k) true n st) Q E s := by
  obtain ⟨o, ho, hex, hd⟩ := R.ob
  intro n
  induction n with
  | zero => exact fun c st _ _ h _ => absurd h (Nat.not_lt_zero _)
  | succ n ih =>
    intro c st hst hc hn hp
    rw [setSearchFrom_succ]
    refine wpAny_bind (wpAny_setState_of ho hd R.fits ?_)
    dsimp only
    refine wp_if_neg (odd_way R.ok.mok) ?_
    try refine wpAny_bind (wpAny_pure ?_)
    generalize eh : tkH P w k = h at *
    generalize eA : (fun i : Nat => (es[i]?.map (·.1)).getD (0 : Int)) = hashAt
    have hA : ∀ (i : Nat) p, L[i]? = some p → hashAt i = tkH P w p.2 := fun i p hi => by
      rw [← eA]
      show (es[i]?.map (·.1)).getD 0 = _
      rw [R.row hi]
      rfl
    have hE' : (nth t.mask (prb t h c) (N - c)).j ∉ t.place.toList := by
      rw [prb_add, show c + (N - c) = N by omega]
      exact hE
    have hB' : ∀ q, q < N - c → (nth t.mask (prb t h c) q).j ∈ t.place.toList := fun q hq => by
      rw [prb_add]
      exact hB _ (by omega)
    -- what is passed on the way has another hash
    have pass : ∀ q, (∀ q' i', q' < q → t.place.toList[i']? = some (nth t.mask (prb t h c) q').j → hashAt i' ≠ h) → Past t L h k (c + q) := fun q hno d hd i p hi hp' e => by
      by_cases hdc : d < c
      · exact hp d hdc i p hi hp' e
      · refine hno (d - c) i (by omega) ?_ ((hA i p hp').trans (by rw [e]; exact eh))
        rw [prb_add, show c + (d - c) = d by omega]
        exact hi
    rcases go_spec t R.ok.ris R.ok.dm hashAt h (10 * SetTable.turns t.mask) (N - c) (prb t h c) (prb_dm t h c) (by omega) hB' hE' with ⟨q, i, hq, hi, hh, hno, pr⟩ | ⟨hno, pr⟩
    · have pr' : t.probe hashAt h (st.getD (t.probeStart h)) = some (.candidate (way t.mask h (c + q)) i (prb t h (c + (q + 1)))) := by
        rw [hst]
        refine Eq.trans ?_ (pr.trans ?_)
        · rfl
        · rw [prb_add, prb_add]
      rw [pr']
      dsimp only
      rw [prb_add] at hi
      have hi' : t.place.toList[i]? = some (way t.mask h (c + q)) := hi
      obtain ⟨p, hpi⟩ : ∃ p, L[i]? = some p := ⟨_, List.getElem?_eq_getElem (by
        have h1 := (List.getElem?_eq_some_iff.mp hi').1
        rw [Array.length_toList, R.places] at h1
        exact h1)⟩
      have mp : p ∈ L := List.mem_of_getElem? hpi
      have live : t.slot (way t.mask h (c + q)) = .live i := slot_live R.ok.ris hi'
      have more : wpAny (model P w) A (searchRest a (.ref x) h true n es t (way t.mask h (c + q)) i (prb t h (c + (q + 1)))) Q E s := by
        unfold searchRest
        rw [R.row hpi]
        show wpAny _ _ (holding [Value.ref p.1] (eqBool (.ref p.1) (.ref x)) >>= _) _ _ s
        refine wpAny_bind (wpAny_holding (wpAny_eqBool_tuple hu (R.at_ p mp) hx ?_))
        refine wpAny_bind (wpAny_setState_of ho hd R.fits ?_)
        dsimp only
        by_cases e : p.2 = k
        · exact wp_if_pos (by rw [e]; simp) (wpAny_pure (yes (List.mem_map.mpr ⟨p, mp, e⟩)))
        · have ed : decide (p.2 = k) = false := decide_eq_false e
          refine wp_if_neg (by rw [ed]; simp) ?_
          try refine wpAny_bind (wpAny_pure ?_)
          rw [sameMem]
          dsimp only
          rw [if_pos rfl, live]
          dsimp only
          rw [R.row hpi]
          refine wpAny_bind (wpAny_isSame_ref_self (wpAny_bind (wpAny_pure ?_)))
          rw [if_pos rfl]
          dsimp only
          refine wp_if_neg (by rw [ed]; simp) ?_
          refine ih (c + (q + 1)) _ rfl (by omega) (by omega) fun d hd' j p' hj hp' => ?_
          by_cases hdq : d < c + q
          · exact pass q hno d hdq j p' hj hp'
          · obtain rfl : d = c + q := by omega
            have l2 := slot_live R.ok.ris hj
            rw [live] at l2
            injection l2 with l2
            rw [← l2, hpi] at hp'
            rw [← Option.some.inj hp']
            exact e
      by_cases hl : t.led = true
      · refine wp_if_neg (by rw [hl]; simp) ?_
        try refine wpAny_bind (wpAny_pure ?_)
        exact more
      · refine wp_if_pos (by simp [hl]) (wpAny_bind (tk_seen hx (fun y hy => ?_) ?_))
        · obtain ⟨e, he, rfl⟩ := List.mem_map.mp hy
          have he2 : e ∈ es.toList := by
            rw [Array.mem_toList_iff] at he ⊢
            exact (Array.mem_filter.mp he).1
          rw [R.es] at he2
          obtain ⟨p2, hp2, rfl⟩ := List.mem_map.mp he2
          exact ⟨p2.2, p2.1, rfl, R.at_ p2 hp2⟩
        · refine wp_if_neg Bool.false_ne_true ?_
          try refine wpAny_bind (wpAny_pure ?_)
          exact more
    · have pr' : t.probe hashAt h (st.getD (t.probeStart h)) = some (.empty (way t.mask h N) none) := by
        rw [hst]
        refine Eq.trans ?_ (pr.trans ?_)
        · rfl
        · rw [prb_add, show c + (N - c) = N by omega]
      rw [pr']
      dsimp only
      refine wpAny_pure (no fun hm => ?_)
      obtain ⟨p, mp, e⟩ := List.mem_map.mp hm
      obtain ⟨i, hil, ei⟩ := List.getElem_of_mem mp
      have hpi : L[i]? = some p := by rw [List.getElem?_eq_getElem hil, ei]
      have hpl : i < t.place.toList.length := by rw [Array.length_toList, R.places]; exact hil
      obtain ⟨d, hdN, ed⟩ := R.ok.before hE (by rw [List.getElem?_map, hpi]; show some (tkH P w p.2) = _; rw [e, eh]) (List.getElem?_eq_getElem hpl)
      exact pass (N - c) hno d (by omega) i p (by rw [List.getElem?_eq_getElem hpl, ed]) hpi e
end
end Ed

set_option maxHeartbeats 2000000
/-! EdTs3: adding to a set of tuples. -/
namespace Ed
open PySem PySem.Spec PyProof.Rows L2
section
variable {P : Program} {w : World} {A : Around} {E : Value → Shared → Prop} {s : Shared} {a : Addr} {L : TkL} {es : Array (Int × Value)} {ep : Nat} {t : SetTable}
theorem tk_add0 (R : TSet P w s.heap a L es ep t) {x : Addr} {k : List Key} (hx : TkIs P w s.heap k x) (hu : A.units < cLine) {Q : SetFound → Shared → Prop} (yes : k ∈ L.map (·.2) → Q (.there none) s)
    (no : ∀ N, k ∉ L.map (·.2) → way t.mask (tkH P w k) N ∉ t.place.toList → (∀ d, d < N → way t.mask (tkH P w k) d ∈ t.place.toList) → Q (.free (way t.mask (tkH P w k) N) false) s) :
    wpAny (model P w) A (setSearch a (.ref x) (tkH P w k) true) Q E s := by
  obtain ⟨N, h1, h2, h3⟩ := R.ok.first (by rw [List.length_map]; have := R.room; omega) (tkH P w k)
  have big : 10 * SetTable.turns t.mask ≤ 10000 := by
    unfold SetTable.turns
    rcases R.ok.mok with e | e | e <;> rw [e] <;> omega
  unfold setSearch
  exact tk_search R hx hu h1 h2 h3 yes (fun n => no N n h2 h3) 100000 0 none rfl (Nat.zero_le _) (by omega) fun d hd => absurd hd (Nat.not_lt_zero _)
theorem tk_other {h h' : Heap} {k : List Key} {b : Addr} {o : Obj} (hb : TkIs P w h k b) (ho : h.get? a = some o) (hd : o.data = .set es ep t) (sb : Heap.SameBut a h h') : TkIs P w h' k b := by
  obtain ⟨o2, its, n, h1, h2, h3, h4⟩ := hb
  refine ⟨o2, its, n, (sb.2 b fun e => ?_).trans h1, h2, h3, h4⟩
  rw [e, ho] at h1
  rw [← Option.some.inj h1, hd] at h3
  cases h3
theorem tk_keep {h h' : Heap} {k : List Key} {b : Addr} (hb : TkIs P w h k b) (kp : ∀ c o, h.get? c = some o → h'.get? c = some o) : TkIs P w h' k b := by
  obtain ⟨o2, its, n, h1, h⟩ := hb
  exact ⟨o2, its, n, kp _ _ h1, h⟩
theorem all_places {α : Type} (l : List α) : (List.range l.length).filterMap (fun i => l[i]?) = l := by
  have key : ∀ n, n ≤ l.length → (List.range n).filterMap (fun i => l[i]?) = l.take n := by
    intro n
    induction n with
    | zero => exact fun _ => rfl
    | succ n ih =>
      intro hn
      rw [List.range_succ, List.filterMap_append, ih (by omega), List.take_succ]
      congr 1
  rw [key _ (Nat.le_refl _), List.take_length]
/-- the table is laid anew -/
theorem tk_relay {o : Obj} (ho : s.heap.get? a = some o) (hex : o.ExactSet) (hd : o.data = .set es ep t) (hes : es.toList = L.map (tkRow P w)) (hpl : t.place.size = es.size) (hdm : t.dummies = #[]) (hfl : es.size ≤ t.mask)
    (nd : (L.map (·.2)).Nodup) (at_ : ∀ p ∈ L, TkIs P w s.heap p.2 p.1) (led : w.params.followText "set-order" = true ∨ t.led = true) (few : L.length < 64) {wanted M : Nat} (hw : SetTable.sizeAbove wanted = M + 1) (hM : MaskOk M) (room : L.length * 5 < M * 3) {Q : Unit → Shared → Prop}
    (hQ : ∀ h' L' es' ep' t', Heap.SameBut a s.heap h' → TSet P w h' a L' es' ep' t' → L'.Perm L → Q () { s with heap := h' }) : wpAny (model P w) A (setRelay a wanted) Q E s := by
  have hsz : es.size = L.length := by rw [← Array.length_toList, hes, List.length_map]
  have hM1 : M ≤ 127 := by rcases hM with e | e | e <;> omega
  obtain ⟨t', ord, e, pm, T, tm, tl, tp, _⟩ := relaid_ok t (hs := es.map (·.1)) (wanted := wanted) (M := M) (by omega) hM (by rw [Array.size_map, hsz]; omega)
  rw [Array.size_map, hsz] at pm
  obtain ⟨L2, eL⟩ : ∃ L2, L2 = ord.toList.filterMap fun i => L[i]? := ⟨_, rfl⟩
  have p2 : L2.Perm L := by
    have := pm.filterMap fun i => L[i]?
    rwa [all_places, ← eL] at this
  have en : ∀ i, es[i]? = (L[i]?).map (tkRow P w) := fun i => by rw [← Array.getElem?_toList, hes, List.getElem?_map]
  have r2 : (ord.filterMap (es[·]?)).toList = L2.map (tkRow P w) := by
    rw [Array.toList_filterMap, eL, List.map_filterMap]
    exact congrArg (List.filterMap · ord.toList) (funext en)
  have hh : (L2.map fun p => tkH P w p.2) = ord.toList.map fun i => (es.map (·.1)).getD i 0 := by
    have key : ∀ l : List Nat, (∀ i ∈ l, i < L.length) → ((l.filterMap fun i => L[i]?).map fun p => tkH P w p.2) = l.map fun i => (es.map (·.1)).getD i 0 := by
      intro l
      induction l with
      | nil => exact fun _ => rfl
      | cons i l ih =>
        intro hl
        have hi := List.getElem?_eq_getElem (hl i List.mem_cons_self)
        rw [List.filterMap_cons_some hi, List.map_cons, List.map_cons, ih fun j hj => hl j (List.mem_cons_of_mem _ hj)]
        congr 1
        rw [Array.getD_eq_getD_getElem?, Array.getElem?_map, en, hi]
        rfl
    rw [eL]
    exact key _ fun i hi => List.mem_range.mp (pm.mem_iff.mp hi)
  have l2 : L2.length = L.length := p2.length_eq
  have hz : (ord.filterMap (es[·]?)).size = L.length := by rw [← Array.length_toList, r2, List.length_map, l2]
  rw [← hh] at T
  rw [setRelay_eq]
  refine wpAny_bind (wpAny_setState_of ho hd (tab_fits hpl hdm hfl) ?_)
  dsimp only
  refine wp_if_neg (by rw [sizeLine_eq]; omega) ?_
  try refine wpAny_bind (wpAny_pure ?_)
  rw [e]
  dsimp only
  refine wpAny_bind ?_
  refine wp_if_neg (by rw [hz, hsz]; simp) ?_
  try refine wpAny_bind (wpAny_pure ?_)
  refine wpAny_pure ?_
  dsimp only
  have sb : Heap.SameBut a s.heap (s.heap.update a (Obj.putSet (ord.filterMap (es[·]?)) t')) := Heap.SameBut.update ..
  refine wpAny_storeSet_of ho hd (hQ _ L2 _ (ep + 1) t' sb ⟨⟨_, store_at ho hd, ⟨hex.1, hex.2.1, hex.2.2⟩, rfl⟩, r2, T, (p2.map (·.2)).nodup_iff.mpr nd, fun p hp => tk_other (at_ p (p2.mem_iff.mp hp)) ho hd sb, by rw [tl]; exact led, by rw [l2, tm]; exact room, by rw [l2]; exact few⟩ p2) ?_
  rw [hz, sizeLine_eq]
  omega
theorem grow5 : SetTable.sizeAbove (SetTable.grown 5) = 31 + 1 := by decide +kernel
theorem grow19 : SetTable.sizeAbove (SetTable.grown 19) = 127 + 1 := by decide +kernel
/-- adding -/
theorem tk_add (R : TSet P w s.heap a L es ep t) {x : Addr} {k : List Key} (hx : TkIs P w s.heap k x) (hu : A.units < cLine) (few : L.length + 1 < 64) {Q : Bool → Shared → Prop}
    (hQ : ∀ b h' L' es' ep' t', Heap.SameBut a s.heap h' → TSet P w h' a L' es' ep' t' → (k ∈ L.map (·.2) → L' = L) → (k ∉ L.map (·.2) → L'.Perm ((x, k) :: L)) → Q b { s with heap := h' }) :
    wpAny (model P w) A (setAddHashed a (.ref x) (tkH P w k)) Q E s := by
  obtain ⟨o, ho, hex, hd⟩ := R.ob
  unfold setAddHashed
  rw [show (100000 : Nat) = 99999 + 1 from rfl, setAddHashedIn_succ]
  refine wpAny_holding (wpAny_bind (wpAny_setState_of ho hd R.fits ?_))
  dsimp only
  refine wp_if_neg (by simp [byScan, Value.scannable]) ?_
  try refine wpAny_bind (wpAny_pure ?_)
  refine wpAny_bind (tk_add0 R hx hu (fun hm => ?_) fun N hm hE hB => ?_)
  · dsimp only
    exact wpAny_pure (hQ false _ L es ep t (Heap.SameBut.refl a s.heap) R (fun _ => rfl) fun z => absurd hm z)
  dsimp only
  refine wpAny_bind (wpAny_setState_of ho hd R.fits ?_)
  dsimp only
  obtain ⟨g1, g2, g3, g4, g5, g6, _, _, g9⟩ := R.ok.put hE hB
  generalize t.put (way t.mask (tkH P w k) N) = pt at g1 g3 g4 g5 g6 g9 ⊢
  obtain ⟨t1, p⟩ := pt
  dsimp only at g1 g3 g4 g5 g6 g9 ⊢
  rw [← g1] at g2 g3
  rw [List.length_map] at g2
  obtain ⟨L1, eL⟩ : ∃ L1, L1 = L.take p ++ (x, k) :: L.drop p := ⟨_, rfl⟩
  have pm : L1.Perm ((x, k) :: L) := eL ▸ put_perm L p (x, k)
  have l1 : L1.length = L.length + 1 := pm.length_eq
  have e1 : (SetTable.insertAt es p (tkH P w k, Value.ref x)).toList = L1.map (tkRow P w) := by
    rw [SetTable.toList_insertAt, R.es, eL, List.map_append, List.map_cons, List.map_take, List.map_drop]
    rfl
  have h1 : (L1.map fun p => tkH P w p.2) = (L.map fun p => tkH P w p.2).take p ++ tkH P w k :: (L.map fun p => tkH P w p.2).drop p := by
    rw [eL, List.map_append, List.map_cons, List.map_take, List.map_drop]
  rw [← h1] at g3
  have nd1 : (L1.map (·.2)).Nodup := (pm.map (·.2)).nodup_iff.mpr (List.nodup_cons.mpr ⟨hm, R.nd⟩)
  have z1 : (SetTable.insertAt es p (tkH P w k, Value.ref x)).size = L.length + 1 := by rw [← Array.length_toList, e1, List.length_map, l1]
  generalize SetTable.insertAt es p (tkH P w k, Value.ref x) = es1 at e1 z1 ⊢
  -- the rest, whatever the table tells of its values
  have rest : ∀ t2 : SetTable, t2.place = t1.place → t2.dummies = t1.dummies → t2.mask = t1.mask → t2.led = t1.led → t2.fill = t1.fill → wpAny (model P w) A (do
      storeSet a es1 t2
      if !false && t2.tooFull then setRelay a (SetTable.grown (es.size + 1))
      return true) Q E s := fun t2 q1 q2 q3 q4 q5 => by
    have T2 : TabOk t2 (L1.map fun p => tkH P w p.2) := ⟨by rw [q1]; exact g3.ris, by rw [q2]; exact g3.dm, by rw [q1]; exact g3.sz, by rw [q3]; exact g3.mok, by rw [q1, q3]; exact g3.bd, by rw [q1, q3]; exact g3.reach⟩
    refine wpAny_bind (wpAny_storeSet_of ho hd ?_ (by rw [z1, sizeLine_eq]; omega))
    have sb : Heap.SameBut a s.heap (s.heap.update a (Obj.putSet es1 t2)) := Heap.SameBut.update ..
    have ho1 := store_at (es' := es1) (t' := t2) ho hd
    generalize s.heap.update a (Obj.putSet es1 t2) = H1 at sb ho1 ⊢
    have at1 : ∀ p ∈ L1, TkIs P w H1 p.2 p.1 := fun p hp => by
      rcases List.mem_cons.mp (pm.mem_iff.mp hp) with rfl | hp
      · exact tk_other hx ho hd sb
      · exact tk_other (R.at_ p hp) ho hd sb
    have led1 : w.params.followText "set-order" = true ∨ t2.led = true := by rw [q4, g5]; exact R.led
    have full : t2.tooFull = decide ((L.length + 1) * 5 ≥ t.mask * 3) := by
      unfold SetTable.tooFull
      rw [q5, g9, q3, g4, List.length_map]
    by_cases hf : (L.length + 1) * 5 ≥ t.mask * 3
    · have go : ∀ M, SetTable.sizeAbove (SetTable.grown (L.length + 1)) = M + 1 → MaskOk M → (L.length + 1) * 5 < M * 3 → wpAny (model P w) A (setRelay a (SetTable.grown (es.size + 1)) >>= fun _ => pure true) Q E { s with heap := H1 } := fun M m1 m2 m3 => by
        rw [R.size]
        refine wpAny_bind (tk_relay (s := { s with heap := H1 }) (L := L1) ho1 ⟨hex.1, hex.2.1, hex.2.2⟩ rfl e1 (by rw [T2.sz, List.length_map, l1, z1]) T2.dm (by rw [z1, q3, g4]; have := R.room; have := R.ok.mok; rcases this with e | e | e <;> omega) nd1 at1 led1 (by omega) m1 m2 (by omega) fun h2 L2 es2 ep2 t3 sb2 R2 pm2 => ?_)
        exact wpAny_pure (hQ true h2 L2 es2 ep2 t3 (sb.trans sb2) R2 (fun z => absurd z hm) fun _ => pm2.trans pm)
      have fin : wpAny (model P w) A (setRelay a (SetTable.grown (es.size + 1)) >>= fun _ => pure true) Q E { s with heap := H1 } := by
        have hr := R.room
        rcases R.ok.mok with e | e | e
        · have e4 : L.length = 4 := by omega
          exact go 31 (by rw [e4]; exact grow5) (.inr (.inl rfl)) (by omega)
        · have e4 : L.length = 18 := by omega
          exact go 127 (by rw [e4]; exact grow19) (.inr (.inr rfl)) (by omega)
        · omega
      first
        | exact wp_if_pos (by rw [full]; simp [hf]) fin
        | (refine wpAny_bind (wp_if_pos (by rw [full]; simp [hf]) ?_); exact fin)
    · have R1 : TSet P w H1 a L1 es1 (ep + 1) t2 := ⟨⟨_, ho1, ⟨hex.1, hex.2.1, hex.2.2⟩, rfl⟩, e1, T2, nd1, at1, led1, by rw [l1, q3, g4]; omega, by omega⟩
      have fin : wpAny (model P w) A (pure true : Sem Bool) Q E { s with heap := H1 } := wpAny_pure (hQ true H1 L1 es1 (ep + 1) t2 sb R1 (fun z => absurd z hm) fun _ => pm)
      first
        | exact wp_if_neg (by rw [full]; simp [hf]) fin
        | (refine wpAny_bind (wp_if_neg (by rw [full]; simp [hf]) ?_); exact wpAny_pure fin)
  have both : ∀ b : Bool, wpAny (model P w) A (do
      let t2 := if b then t1 else { t1 with plain := false }
      storeSet a es1 t2
      if !false && t2.tooFull then setRelay a (SetTable.grown (es.size + 1))
      return true) Q E s := fun b => by
    cases b with
    | true => exact rest t1 rfl rfl rfl rfl rfl
    | false => exact rest { t1 with plain := false } rfl rfl rfl rfl rfl
  by_cases hp : t1.plain = true
  · first
      | exact wpAny_bind (wp_if_pos hp (tk_hash hx both))
      | exact wp_if_pos hp (wpAny_bind (tk_hash hx both))
  · first
      | exact wpAny_bind (wp_if_neg hp (wpAny_pure (both true)))
      | exact wp_if_neg hp (both true)
      | exact wp_if_neg hp (wpAny_bind (wpAny_pure (both true)))
end
end Ed

set_option maxHeartbeats 4000000
/-! EdTs4: set(t), t a tuple of tuples of ints and texts. -/
namespace Ed
open PySem PySem.Spec PyProof.Rows L2
section
variable {P : Program} {w : World} {A : Around} {E : Value → Shared → Prop} {s : Shared} {a : Addr} {L : TkL} {es : Array (Int × Value)} {ep : Nat} {t : SetTable}
theorem TSet.keep {h h' : Heap} (R : TSet P w h a L es ep t) (kp : ∀ o, h.get? a = some o → h'.get? a = some o) (at_ : ∀ p ∈ L, TkIs P w h' p.2 p.1) : TSet P w h' a L es ep t := by
  obtain ⟨o, ho, z⟩ := R.ob
  exact ⟨⟨o, kp o ho, z⟩, R.es, R.ok, R.nd, at_, R.led, R.room, R.few⟩
/-- the set as set.__new__ leaves it -/
abbrev set0 (w : World) : Obj := { cls := .type "set", dict := none, data := .set #[] 0 (.fresh 0 0 (!w.params.followText "set-order")) }
theorem tset0 {h : Heap} (ho : h.get? a = some (set0 w)) : TSet P w h a [] #[] 0 (.fresh 0 0 (!w.params.followText "set-order")) := by
  refine ⟨⟨_, ho, ⟨rfl, rfl, rfl⟩, rfl⟩, rfl, ⟨List.Pairwise.nil, rfl, rfl, (.inl rfl), fun x hx => (nomatch hx), fun i h j hi => ?_⟩, List.nodup_nil, fun p hp => (nomatch hp), ?_, (by show 0 * 5 < 7 * 3; decide), (by show 0 < 64; decide)⟩
  · rw [List.map_nil, List.getElem?_nil] at hi
    cases hi
  · show _ ∨ (!w.params.followText "set-order") = true
    cases w.params.followText "set-order"
    · exact .inr rfl
    · exact .inl rfl
/-- the set holds just the keys of the first i -/
structure Held (ks : TkL) (i : Nat) (L : TkL) : Prop where
  sub : ∀ p ∈ L, p ∈ ks.take i
  all : ∀ p ∈ ks.take i, p.2 ∈ L.map (·.2)
  len : L.length ≤ i
theorem Held.step {ks L L' : TkL} {i : Nat} {p : Addr × List Key} (g : Held ks i L) (hp : ks[i]? = some p) (h1 : p.2 ∈ L.map (·.2) → L' = L) (h2 : p.2 ∉ L.map (·.2) → L'.Perm (p :: L)) : Held ks (i + 1) L' := by
  have e : ks.take (i + 1) = ks.take i ++ [p] := by rw [List.take_succ, hp]; rfl
  rcases Classical.em (p.2 ∈ L.map (·.2)) with c | c
  · rw [h1 c]
    refine ⟨fun q hq => ?_, fun q hq => ?_, Nat.le_succ_of_le g.len⟩
    · rw [e]
      exact List.mem_append_left _ (g.sub q hq)
    · rw [e] at hq
      rcases List.mem_append.mp hq with z | z
      · exact g.all q z
      · rw [List.mem_singleton.mp z]
        exact c
  · have pm := h2 c
    refine ⟨fun q hq => ?_, fun q hq => (pm.map (·.2)).mem_iff.mpr ?_, by rw [pm.length_eq]; exact Nat.succ_le_succ g.len⟩
    · rw [e]
      rcases List.mem_cons.mp (pm.mem_iff.mp hq) with rfl | z
      · exact List.mem_append_right _ (List.mem_singleton.mpr rfl)
      · exact List.mem_append_left _ (g.sub q z)
    · rw [List.map_cons]
      rw [e] at hq
      rcases List.mem_append.mp hq with z | z
      · exact List.mem_cons_of_mem _ (g.all q z)
      · rw [List.mem_singleton.mp z]
        exact List.mem_cons_self
/-- the loop of set.update: n - i items are left -/
theorem tk_loop {I S : Addr} {fp wr : List Addr} {G : Array GenState → Array GenState → Prop} {Pv : Nat → Value → Prop} {St : Nat → Shared → Prop} {R : Result → Shared → Prop} {ks : TkL} (W : WalksS P w A.in1 I fp wr G ks.length Pv St) (nS : S ∉ fp) (few : ks.length < 64)
    (val : ∀ i v, Pv i v → ∃ p, ks[i]? = some p ∧ v = .ref p.1) {h0 : Heap} (hk : ∀ p ∈ ks, TkIs P w h0 p.2 p.1) (hS0 : h0.get? S = none) (hw0 : ∀ b ∈ wr, h0.get? b = none) (hu : A.in1.units < cLine) :
    ∀ (m i : Nat) (s : Shared), i + m = ks.length → St i s → (∀ b o, h0.get? b = some o → s.heap.get? b = some o) → (∃ L es ep t, TSet P w s.heap S L es ep t ∧ Held ks i L) →
      (∀ s' L es ep t, Moved (S :: wr) G s s' → TSet P w s'.heap S L es ep t → Held ks ks.length L → (∀ b o, h0.get? b = some o → s'.heap.get? b = some o) → R (.ok (.ret .none)) s') →
      codeAny (model P w) A (.builtin "set.update.loop" ⟨[.ref S, .ref I], []⟩) R s := by
  have nW : S ∉ wr := fun h => nS (W.sub _ h)
  have onto : ∀ {s s' : Shared}, Moved wr G s s' → (∀ b o, h0.get? b = some o → s.heap.get? b = some o) → ∀ b o, h0.get? b = some o → s'.heap.get? b = some o := fun mv kp b o e =>
    mv.heap b o (fun z => by rw [hw0 b z] at e; cases e) (kp b o e)
  have carry : ∀ {s s' : Shared} {L es ep t i}, Moved wr G s s' → (∀ b o, h0.get? b = some o → s'.heap.get? b = some o) → TSet P w s.heap S L es ep t → Held ks i L → TSet P w s'.heap S L es ep t := fun mv kp T g =>
    T.keep (fun o e => mv.heap S o nW e) fun p hp => tk_keep (hk p (List.mem_of_mem_take (g.sub p hp))) kp
  intro m
  induction m with
  | zero =>
    rintro i s hi hst kp ⟨L, es, ep, t, T, g⟩ hR
    obtain rfl : i = ks.length := by omega
    refine codeAny_builtin F.entry_set_update_loop ?_
    rw [Around.under_plainId F.plain_set_update_loop _]
    show wpAny _ A.in1 (pyNext (.ref I) >>= _) _ _ s
    refine wpAny_bind (W.done s _ _ hst fun s' mv => ?_)
    have kp' := onto mv kp
    exact wpAny_pure (hR s' L es ep t (mv.mono fun b hb => List.mem_cons_of_mem _ hb) (carry mv kp' T g) g kp')
  | succ m ih =>
    rintro i s hi hst kp ⟨L, es, ep, t, T, g⟩ hR
    refine codeAny_builtin F.entry_set_update_loop ?_
    rw [Around.under_plainId F.plain_set_update_loop _]
    show wpAny _ A.in1 (pyNext (.ref I) >>= _) _ _ s
    refine wpAny_bind (W.item i s _ _ (by omega) hst fun v s' hv hst' mv => ?_)
    obtain ⟨p, hp, rfl⟩ := val i v hv
    have kp' := onto mv kp
    have T' := carry mv kp' T g
    have hx : TkIs P w s'.heap p.2 p.1 := tk_keep (hk p (List.mem_of_getElem? hp)) kp'
    show wpAny _ A.in1 (holding [Value.ref p.1] (setAdd S (.ref p.1)) >>= _) _ _ s'
    refine wpAny_bind (wpAny_holding ?_)
    unfold setAdd
    refine wpAny_holding (wpAny_bind (wpAny_pyHash_tuple hu hx ?_))
    refine tk_add (s := { s' with toks := s'.toks + (p.2.length + 1) }) T' hx hu (by have := g.len; omega) fun b h' L' es' ep' t' sb T2 c1 c2 => ?_
    have kp2 : ∀ b o, h0.get? b = some o → h'.get? b = some o := fun b o e => (sb.2 b fun z => by rw [z, hS0] at e; cases e).trans (kp' b o e)
    refine wpAny_pure ⟨plainId_quiet F.plain_set_update_loop _, ih (i + 1) _ (by omega) (W.frame _ s' _ _ hst' (Nat.le_add_right _ _) fun b hb o e => ?_) kp2 ⟨L', es', ep', t', T2, g.step hp c1 c2⟩ fun s'' L2 es2 ep2 t2 mv2 T3 g3 kp3 => ?_⟩
    · exact (sb.2 b fun z => nS (z ▸ hb)).trans e
    · refine hR s'' L2 es2 ep2 t2 (Moved.trans W.gtrans ((mv.mono fun b hb => List.mem_cons_of_mem _ hb).then_heap (Nat.le_add_right _ _) fun b o hb e => ?_) mv2) T3 g3 kp3
      exact (sb.2 b fun z => hb (by rw [z]; exact List.mem_cons_self)).trans e
set_option maxHeartbeats 8000000 in
/-- set(t) -/
theorem tk_set {l : Addr} {items : Array Value} (ks : TkL) {Q : Value → Shared → Prop} (hh : A.handled = none) (hl : s.heap.IsTuple l items) (hit : items.toList = ks.map fun p => Value.ref p.1) (hk : ∀ p ∈ ks, TkIs P w s.heap p.2 p.1) (few : ks.length < 64) (hu : A.units + 3 < cLine)
    (hQ : ∀ (h' : Heap) (tk : Nat) L es ep t, TSet P w h' s.heap.objs.size L es ep t → Held ks ks.length L → (∀ b o, s.heap.get? b = some o → h'.get? b = some o) → Q (.ref s.heap.objs.size) { s with heap := h', toks := tk }) :
    wpAny (model P w) A (call (.type "set") [.ref l]) Q E s := by
  obtain ⟨c, tl, hmro⟩ := F.called_set.mro
  have hmade := F.called_set.made
  have hsub := F.called_set.sub
  refine wpAny_call (codeAny_of_tree ?_)
  show wpAny _ _ (callAny (.type "set") _) _ _ _
  refine wpAny_pure ⟨Code.quiet_builtin _ (by decide +kernel), codeAny_builtin F.entry_type_call ?_⟩
  rw [Around.under_plain (weight_type_call_type "set" [.ref l] []) rfl]
  have h1 := F.called_set.notType
  have h2 := F.called_set.canCreate
  have hct := F.typeCall_set_1 (.ref l)
  repeat (any_goals (first | assumption | wp_step))
  refine codeAny_mono (code_set_led1 (.ref l) (E := E) (Q₁ := fun obj s₁ => obj = .ref s.heap.objs.size ∧ s₁ = { s with heap := s.heap.push (set0 w) }) ⟨rfl, rfl⟩) fun r s₁ hr => ?_
  match r, hr with
  | .error e, hr => exact hr
  | .ok (.ret obj), hr =>
    obtain ⟨rfl, rfl⟩ := hr
    have hS : (s.heap.push (set0 w)).get? s.heap.objs.size = some (set0 w) := Heap.get?_push_size _ rfl
    have hT : Shared.TypeIs { s with heap := s.heap.push (set0 w) } (.ref s.heap.objs.size) "set" := ⟨_, hS, rfl⟩
    have hli := F.called_set.init.lookup
    have hbi := F.called_set.init.bind (.ref s.heap.objs.size)
    repeat (any_goals (first | assumption | wp_step))
    refine codeAny_mono (codeAny_call_builtin (R := wants (fun r s₂ => r = .none ∧ ∃ h' tk L es ep t, s₂ = { s with heap := h', toks := tk } ∧ TSet P w h' s.heap.objs.size L es ep t ∧ Held ks ks.length L ∧ (∀ b o, s.heap.get? b = some o → h'.get? b = some o)) E)
      F.called_set.init.plain F.entry_set_init (check_set_init_1 hT ?_)) fun r₂ s₂ hr₂ => ?_
    · obtain ⟨ol, hol, hcl, nl, hdl⟩ := hl
      obtain ⟨ocls, odict, odata, oslots⟩ := ol
      simp only at hcl hdl
      subst hcl hdl
      have hol' : (s.heap.push (set0 w)).get? l = some { cls := .type "tuple", dict := odict, data := .seq items nl, slots := oslots } := Heap.get?_push_of_some _ hol
      have hsls := F.sub_tuple_set
      have hslf := F.sub_tuple_frozenset
      have hne : (Value.type "tuple" == Value.type "dict") = false := by decide
      have hl1 : (s.heap.push (set0 w)).IsTuple l items := ⟨_, hol', rfl, nl, rfl⟩
      unfold Builtin.«set.__init__» noKeywords Builtin.Frozenset.updateFrom
      generalize hPI : pyIter = PI
      wp_walk
      subst hPI
      refine wpAny_pyIter_tuple hl1 (wpAny_bind (wpAny_runValue ?_))
      have lt : l < s.heap.objs.size := Heap.lt_size hol
      have sz : (s.heap.push (set0 w)).objs.size = s.heap.objs.size + 1 := Heap.size_push ..
      have hz : items.size = ks.length := by rw [← Array.length_toList, hit, List.length_map]
      have gone : ∀ b, s.heap.objs.size ≤ b → s.heap.get? b = none := fun b hb => by
        cases q : s.heap.get? b with
        | none => rfl
        | some o => exact absurd (Heap.lt_size q) (Nat.not_lt_of_le hb)
      have W := (Walks.tuple (prog := P) (w := w) (A := A.in1.in1.in1) (by simp [hh]) (s.heap.push (set0 w)).objs.size l (by rw [sz]; exact Nat.ne_of_lt (Nat.lt_succ_of_lt lt)) items).toS
      rw [hz] at W
      refine tk_loop (h0 := s.heap) (S := s.heap.objs.size) W ?nS few ?val hk (gone _ (Nat.le_refl _)) (fun b hb => gone b ?wr) hu ks.length 0 _ (by omega) ⟨⟨_, Heap.get?_push_size _ rfl, rfl, rfl⟩, hl1.push _⟩
        (fun b o e => Heap.get?_push_of_some _ (Heap.get?_push_of_some _ e)) ⟨[], #[], 0, _, tset0 (Heap.get?_push_of_some _ hS), fun p hp => (nomatch hp), fun p hp => (by simp at hp), Nat.le_refl _⟩ fun s' L es ep t mv T g kp => ?fin
      case nS =>
        rw [sz]
        simp only [List.mem_cons, List.not_mem_nil, or_false, not_or]
        exact ⟨Nat.ne_of_lt (Nat.lt_succ_self _), Nat.ne_of_gt lt⟩
      case wr =>
        rw [List.mem_singleton.mp hb, sz]
        exact Nat.le_succ _
      case val =>
        intro i v hv
        have q : items.toList[i]? = some v := by rw [Array.getElem?_toList]; exact hv
        rw [hit, List.getElem?_map] at q
        obtain ⟨p, h3, h4⟩ := Option.map_eq_some_iff.mp q
        exact ⟨p, h3, h4.symm⟩
      case fin =>
        obtain ⟨h', g2, d', tk', os'⟩ := s'
        obtain rfl : g2 = s.gens := mv.gens
        obtain rfl : d' = s.drawn := mv.drawn
        obtain rfl : os' = s.os := mv.os
        exact wpAny_pure (wpAny_pure ⟨rfl, h', tk', L, es, ep, t, rfl, T, g, kp⟩)
    · match r₂, hr₂ with
      | .error e, hr₂ => exact hr₂
      | .ok (.ret r), hr₂ =>
        obtain ⟨rfl, h', tk, L, es, ep, t, rfl, T, g, kp⟩ := hr₂
        repeat (any_goals (first | assumption | wp_step))
        exact hQ _ _ _ _ _ _ T g kp
end
end Ed

set_option maxHeartbeats 2000000
/-! EdTs5: sorted(set(t)), t a tuple of ids. -/
namespace Ed
open PySem PySem.Spec PyProof.Rows L2
theorem perm_back {α β : Type} {f : α → β} {v u : List β} (h : v.Perm u) : ∀ l : List α, u = l.map f → ∃ l' : List α, l'.Perm l ∧ v = l'.map f := by
  induction h with
  | nil => exact fun l e => ⟨l, .refl _, e⟩
  | cons x h ih =>
    intro l e
    cases l with
    | nil => cases e
    | cons b l =>
      rw [List.map_cons, List.cons.injEq] at e
      obtain ⟨l', p, e2⟩ := ih l e.2
      exact ⟨b :: l', p.cons b, by rw [List.map_cons, e.1, e2]⟩
  | swap x y z =>
    intro l e
    match l, e with
    | b :: c :: l, e =>
      simp only [List.map_cons, List.cons.injEq] at e
      exact ⟨c :: b :: l, .swap b c l, by simp only [List.map_cons, e]⟩
  | trans h1 h2 i1 i2 =>
    intro l e
    obtain ⟨l2, p2, e2⟩ := i2 l e
    obtain ⟨l1, p1, e1⟩ := i1 l2 e2
    exact ⟨l1, p1.trans p2, e1⟩
section
variable {X : Cx} {pins : List (Addr × Obj)} {σ : L2.St} {H : Hp} {s : Shared} {A : Around} {E : Value → Shared → Prop}
/-- the row of a set's table is an id that H knows -/
def IdRow (H : Hp) (l : List Nat) (p : Addr × List Key) : Prop := ∃ c ∈ l, p.2 = idK c ∧ Rep H (.ref p.1) (idD c)
theorem ids_rows {l : List Nat} : ∀ {L : TkL}, (∀ p ∈ L, IdRow H l p) → ∃ bs : List Nat, (∀ c ∈ bs, c ∈ l) ∧ L.map (·.2) = bs.map idK ∧ PySem.W.EachIs (RV H idD) (L.map fun p => Value.ref p.1) bs ∧ Reps H (L.map fun p => V.ref p.1) (bs.map idD) ∧ bs.length = L.length
  | [], _ => ⟨[], fun c hc => (nomatch hc), rfl, .nil, .nil, rfl⟩
  | p :: L, h => by
    obtain ⟨bs, h1, h2, h3, h4, h5⟩ := ids_rows (L := L) fun q hq => h q (List.mem_cons_of_mem _ hq)
    obtain ⟨c, hc, e, r⟩ := h p List.mem_cons_self
    refine ⟨c :: bs, fun d hd => ?_, by rw [List.map_cons, List.map_cons, e, h2], PySem.W.EachIs.cons (show RV H idD (Value.ref p.1) c from ⟨V.ref p.1, rfl, r⟩) h3, .cons r h4, by rw [List.length_cons, List.length_cons, h5]⟩
    rcases List.mem_cons.mp hd with rfl | hd
    · exact hc
    · exact h1 d hd
theorem vals_rows : ∀ (L : TkL), Vals (L.map fun p => V.ref p.1) (L.map fun p => Value.ref p.1)
  | [] => .nil
  | p :: L => .cons rfl (vals_rows L)
/-- sorted(s), s a set of ids -/
theorem tk_sorted {a : Addr} {L : TkL} {es : Array (Int × Value)} {ep : Nat} {t : SetTable} (I : Inv X pins σ H s) (R : TSet X.prog X.w s.heap a L es ep t) (hh : A.handled = none) (hu : A.units + 100 < cLine) {l m : List Nat} (row : ∀ p ∈ L, IdRow H l p) (all : ∀ c ∈ l, idK c ∈ L.map (·.2))
    (hl : ∀ c ∈ l, c < 1200) (hm : m.Pairwise (· < ·)) (hml : ∀ c, c ∈ m ↔ c ∈ l) {Q : Value → Shared → Prop} (q : ∀ p ys s', Inv X pins σ (upd H p (.lst ys)) s' → Reps H ys (m.map idD) → H p = none → Q (.ref p) s') :
    wpAny (model X.prog X.w) A (call (.builtin "sorted") [.ref a]) Q E s := by
  obtain ⟨o, ho, hex, hd⟩ := R.ob
  have hsz := R.size
  have few := R.few
  refine Calls.call_function_entry PyProof.Rows.kind_sorted PyProof.Rows.plain_sorted PyProof.Rows.entry_sorted (PyProof.Rows.args_sorted1 _) ?_
  unfold Builtin.«sorted»
  refine wpAny_bind (m := checkCount "sorted" 1 1 _) (wpAny_pure ?_)
  refine wpAny_bind (collect_set (A := A.in1) hh ⟨o, ho, hex.1, hd⟩ R.fits (by unfold scanBound; omega) R.ok.ris R.led fun s1 vs k1 z1 g1 o1 pm => ?_)
  rw [R.es, List.map_map] at pm
  obtain ⟨L1, p1, e1⟩ := perm_back pm L rfl
  obtain ⟨bs, b1, b2, b3, b4, b5⟩ := ids_rows (H := H) (l := l) (L := L1) fun p hp => row p (p1.mem_iff.mp hp)
  have e1' : vs = L1.map fun p => Value.ref p.1 := e1
  rw [← e1'] at b3
  have ndb : bs.Nodup := by
    have := (p1.map (·.2)).nodup_iff.mpr R.nd
    rw [b2] at this
    exact List.Pairwise.of_map idK (fun _ _ hne e => hne (congrArg idK e)) this
  have pbm : bs.Perm m := (List.perm_ext_iff_of_nodup ndb (hm.imp Nat.ne_of_lt)).mpr fun c => by
    rw [hml]
    refine ⟨b1 c, fun hc => ?_⟩
    have := (p1.map (·.2)).mem_iff.mpr (all c hc)
    rw [b2] at this
    obtain ⟨d, hd, e⟩ := List.mem_map.mp this
    rw [← idK_inj (hl d (b1 d hd)) (hl c hc) e]
    exact hd
  have lv : vs.length = L.length := by rw [e1', List.length_map, p1.length_eq]
  have lb : bs.length ≤ 100000 := by rw [b5, p1.length_eq]; omega
  have sb := srt_of (l := bs) lb
  refine wpAny_bind (wpAny_newList ?_ (by rw [lv, sizeLine_eq]; omega))
  have hoL : (s1.heap.push (seqObj "list" vs.toArray 0)).get? s1.heap.objs.size = some (seqObj "list" vs.toArray 0) := Heap.get?_push_size _ rfl
  have k2 : ∀ b u, s.heap.get? b = some u → (s1.heap.push (seqObj "list" vs.toArray 0)).get? b = some u := fun b u e => Heap.get?_push_of_some _ (k1 b u e)
  show wpAny _ _ _ _ _ { s1 with heap := s1.heap.push (seqObj "list" vs.toArray 0) }
  have ok2 : HOk X.prog X.w H (s1.heap.push (seqObj "list" vs.toArray 0)) := I.hok.kept k2
  have rd := each_read (enc := idD) (Reps.reads0 (X := X) (s := { s1 with heap := s1.heap.push (seqObj "list" vs.toArray 0) }) ok2 b4 sb.noL (vals_rows L1))
  rw [← e1'] at rd
  refine wpAny_bind (wpAny_holding (PySem.W.list_sort_data (A := A.in1) (R := RV H idD) hoL b3 (rd.mono fun u b h => ⟨[], h, by simp⟩) sb.al sb.so sb.line (fun b hb => ?_) fun out h1 h2 => ?_))
  · have h3 := (pl_lay (sb.pn b hb)).2
    show A.units + 1 + 1 + (idD b).depth < cLine
    omega
  · obtain ⟨ys, w1, w2⟩ := of_each h2
    have w2' : Reps H ys (m.map idD) := by
      have : bs.mergeSort (PySem.W.dataLe false idD) = m := srt_of_sorted (fun c hc => hl c (b1 c hc)) pbm hm
      rw [this] at w2
      exact w2
    obtain ⟨c, hc⟩ := PyProof.Rows.sortedHeap_at (vs := vs) (out := out.toArray) hoL
    have ly : ys.length ≤ sizeLine := by rw [w1.length, h1, b5, p1.length_eq, sizeLine_eq]; omega
    have kk : ∀ b u, s.heap.get? b = some u → (sortedHeap (s1.heap.push (seqObj "list" vs.toArray 0)) s1.heap.objs.size vs out.toArray).get? b = some u := fun b u e => by
      have lt := Heap.lt_size (k1 b u e)
      rw [PyProof.Rows.sortedHeap_old (Nat.ne_of_lt lt) (by rw [size_push']; exact Nat.lt_succ_of_lt lt)]
      exact k2 b u e
    have hn : H s1.heap.objs.size = none := I.hok.fresh z1
    refine wpAny_pure ⟨_, rfl, q _ ys _ ?_ w2' hn⟩
    exact I.call' (ch := []) o1 (Un.laid kk z1 hn) (I.hok.laid kk z1 ⟨ly, out, c, w1, hc⟩) (by show AllBare s1.gens; rw [g1]; exact I.bare) (fun _ z => nomatch z)
/-- sorted(set(t)), t a tuple of ids: m, each once, rising -/
def tSrtSet (te : TE) : TE := fun σ H Q => te σ H fun v H1 => ∃ l m : List Nat, Rep H1 v (idsD l) ∧ (∀ c ∈ l, c < 1200) ∧ l.length < 64 ∧ m.Pairwise (· < ·) ∧ (∀ c, c ∈ m ↔ c ∈ l) ∧ ∀ p ys, Reps H1 ys (m.map idD) → H1 p = none → Q (.ref p) (upd H1 p (.lst ys))
theorem rows_of : ∀ {l : List Nat} {xs : List V}, Reps H xs (l.map idD) → ∃ ks : TkL, xs = (ks.map fun p => V.ref p.1) ∧ (∀ p ∈ ks, IdRow H l p) ∧ (∀ c ∈ l, idK c ∈ ks.map (·.2)) ∧ ks.length = l.length
  | [], _, h => by
    cases h
    exact ⟨[], rfl, fun p hp => (nomatch hp), fun c hc => (nomatch hc), rfl⟩
  | c :: l, _, h => by
    rw [List.map_cons] at h
    cases h with
    | cons h1 h2 =>
      obtain ⟨ks, e, g1, g2, g3⟩ := rows_of h2
      obtain ⟨b, _, rfl, _⟩ := Rep.inv h1
      refine ⟨(b, idK c) :: ks, by rw [List.map_cons, e], fun p hp => ?_, fun d hd => ?_, by rw [List.length_cons, List.length_cons, g3]⟩
      · rcases List.mem_cons.mp hp with rfl | hp
        · exact ⟨c, List.mem_cons_self, rfl, h1⟩
        · obtain ⟨d, hd, r⟩ := g1 p hp
          exact ⟨d, List.mem_cons_of_mem _ hd, r⟩
      · rw [List.map_cons]
        rcases List.mem_cons.mp hd with rfl | hd
        · exact List.mem_cons_self
        · exact List.mem_cons_of_mem _ (g2 d hd)
theorem tk_of (ok : HOk X.prog X.w H s.heap) {b : Addr} {c : Nat} (h : Rep H (.ref b) (idD c)) : TkIs X.prog X.w s.heap (idK c) b := by
  cases h with
  | tup hb hr =>
    obtain ⟨_, its, rv, o, ho, hc, n, hd⟩ := ok _ _ hb
    refine ⟨o, its.toArray, n, ho, hc, hd, ?_⟩
    cases hr with
    | cons h1 h2 => cases h2 with
      | cons h2 h3 =>
        cases h3
        cases h1
        cases h2
        cases rv with
        | cons r1 r2 => cases r2 with
          | cons r2 r3 =>
            cases r3
            obtain ⟨t1, rfl⟩ := r1
            obtain ⟨t2, rfl⟩ := r2
            exact .cons (mixKind_str _ _ _ _) (.cons (mixKind_int _ _ _ _) .nil)
theorem refs_rows : ∀ {ks : TkL} {us : List Value}, Vals (ks.map fun p => V.ref p.1) us → us = ks.map fun p => Value.ref p.1
  | [], _, h => by cases h; rfl
  | p :: ks, _, h => by
    rw [List.map_cons] at h
    cases h with
    | cons r t =>
      cases r
      rw [refs_rows t]
      rfl
theorem pe_srtSet {e : Expr} {te : TE} {k : Nat} {p1 p2 p3 p4 : Pos} (hr : Room k X.A) (hc : X.calm = true) (m1 : X.mg "sorted" = none) (m2 : X.mg "set" = none) (g1 : Gl X "sorted") (g2 : Gl X "set") (h : PE X e te)
    (na : starEach [e] X.env = (false, eval e X.env) :: starEach [] X.env := by rfl) :
    PE X (.Call (.Name "sorted" p1) [.Call (.Name "set" p2) [e] [] p3] [] p4) (tSrtSet te) := by
  refine ⟨fun pins s σ H Q I q => ?_⟩
  have hu := hr.un
  refine Call_ (ld_blt I g1 m1 PyProof.Rows.boot_sorted ?_)
  refine PyProof.Rows.callWith_builtin1 (PyProof.Rows.args_cons ?_ rfl) rfl rfl
  refine Call_ (ld_blt I g2 m2 PyProof.Rows.boot_set ?_)
  refine PyProof.Rows.callWith_type1 (PyProof.Rows.args_cons (thn (h.run pins s σ H _ I q) fun v s1 ⟨x, H1, I1, r1, q1⟩ => PyProof.Rows.args_nil ?_) na) na rfl
  obtain ⟨l, m, rl, hl, few, hm, hml, q1⟩ := q1
  obtain ⟨b, xs, rfl, hb, rx⟩ := Rep.inv rl
  obtain rfl : v = Value.ref b := r1
  obtain ⟨ks, ex, w1, w2, w3⟩ := rows_of rx
  obtain ⟨its, rv, hT, hz⟩ := I1.tuple (SqT.of hb)
  rw [ex] at rv
  refine tk_set ks (I1.ok.hd hc) hT (by simpa using refs_rows rv) (fun p hp => ?_) (by omega) (by omega) fun h' tk L es ep t T g kp => ?_
  · obtain ⟨c, _, e1, e2⟩ := w1 p hp
    rw [e1]
    exact tk_of I1.hok e2
  · refine PyProof.Rows.args_nil ?_
    have I2 : Inv X pins σ H1 { s1 with heap := h', toks := tk } := I1.kept kp
    exact tk_sorted I2 T (I1.ok.hd hc) (by omega) (fun p hp => w1 p (List.mem_of_mem_take (g.sub p hp))) (fun c hcl => by
      obtain ⟨p, hp, e⟩ := List.mem_map.mp (w2 c hcl)
      rw [← e]
      exact g.all p (by rw [List.take_length]; exact hp)) hl hm hml fun p ys s' I3 ry hp => ⟨.ref p, _, I3, rfl, q1 p ys ry hp⟩
theorem gl_srtSet {S : Sys} {te : TE} {l m : List Nat} (h : Gv S te σ H (.dat (idsD l))) (h1 : ∀ c ∈ l, c < 1200) (h2 : l.length < 64) (h3 : m.Pairwise (· < ·)) (h4 : ∀ c, c ∈ m ↔ c ∈ l) : GvL S (tSrtSet te) σ H ((m.map idD).map Ob.dat) := fun H1 a Q k =>
  h H1 a _ fun v H2 a2 hv => ⟨l, m, hv, h1, h2, h3, h4, fun p ys r hp => k p ys _ (a2.free hp) (a2.trans (.new a2.j' hp)) upd_same (r.mono (Sys.T.new (S := S) a2.j' hp).tups).isL⟩
end
end Ed

set_option maxHeartbeats 1000000
/-! EdPend: != of two steps' dicts. -/
namespace Ed
open PySem PySem.Spec PyProof.Rows L2
section
variable {P : Program} {w : World} {A : Around} {E : Value → Shared → Prop} {s : Shared} {κ : Type} [DecidableEq κ] {M : HeapKind P w κ}
/-- two dicts of the same keys and equal values -/
theorem same_pairs {nm : String} {a b : Addr} {xs ys : List (κ × Addr × Value)} {Q : Bool → Shared → Prop} (na : (a == sysModules) = false) (nb : (b == sysModules) = false) (da : s.heap.DictOfH M a xs) (db : s.heap.DictOfH M b ys) (hu : M.room A) (hl : xs.length = ys.length)
    (he : ∀ x ∈ xs, ∃ p, atKey ys x.1 = some p ∧ SeqAt.EqP P w A s x.2.2 p.2 true) (h : Q true s) : wpAny (model P w) A (Builtin.Dict.samePairs nm a b) Q E s := by
  obtain ⟨oa, ea, pa, ga, _, ta, la, ia, _⟩ := da
  obtain ⟨ob, eb, pb, gb, _, tb, lb, ib, ub⟩ := db
  have za := size_of_entries la
  have zb := size_of_entries lb
  unfold Builtin.Dict.samePairs Builtin.Dict.showsAll
  rw [if_neg (by rw [na]; exact Bool.false_ne_true), if_neg (by rw [nb]; exact Bool.false_ne_true)]
  refine wpAny_bind (wpAny_pure (wpAny_bind (wpAny_pure ?_)))
  refine wpAny_bind (wpAny_dictEntries ga ta ?_)
  dsimp only
  refine wpAny_bind (wpAny_dictEntries gb tb ?_)
  rw [if_neg (by rw [za, zb, hl]; simp)]
  refine wpAny_bind (wpAny_dictEpoch ga ta (wpAny_bind ?_))
  rw [Std.Legacy.Range.forIn_eq_forIn_range']
  simp only [Std.Legacy.Range.size, Nat.sub_zero, Nat.add_sub_cancel, Nat.div_one]
  refine wpAny_forIn_list _ (fun l q s1 => s1 = s ∧ q = (none, ()) ∧ ∀ j ∈ l, j < ea.size) _ (fun j l q s1 hq => ?_) (fun q s1 hq => ?_) _ _ ⟨rfl, rfl, fun j hj => by have := List.mem_range'_1.mp hj; omega⟩
  · obtain ⟨rfl, rfl, hj⟩ := hq
    have hjl := hj j List.mem_cons_self
    obtain ⟨x, hx⟩ : ∃ x, xs[j]? = some x := ⟨_, List.getElem?_eq_getElem (by omega)⟩
    have mx := List.mem_of_getElem? hx
    obtain ⟨p, hp, hv⟩ := he x mx
    refine wpAny_bind (wpAny_dictEntries ga ta ?_)
    rw [entry_at la j, hx]
    show wpAny _ _ (holding [Value.ref x.2.1, x.2.2] _ >>= _) _ _ _
    refine wpAny_bind (wpAny_holding (wpAny_bind ?_))
    refine wpAny_dictFind_heap hu (ia x mx) gb tb lb ib ub (fun no => ?_) fun i p' hi => ?_
    · exfalso
      obtain ⟨⟨k', p''⟩, hm, e⟩ := Option.map_eq_some_iff.mp hp
      obtain ⟨i, hi⟩ := List.mem_iff_getElem?.mp (List.mem_of_find?_eq_some hm)
      have ek : k' = x.1 := by
        have := List.find?_some hm
        exact of_decide_eq_true this
      exact no i p'' (by rw [hi, ek])
    · have ep : p' = p := Option.some.inj ((atKey_of_get ub hi).symm.trans hp)
      refine wpAny_bind (wpAny_dictEntries gb tb ?_)
      rw [entry_at lb i, hi]
      show wpAny _ _ (holding [p'.2] (eqBool x.2.2 p'.2)) _ _ _
      rw [ep]
      refine wpAny_holding (hv _ _ ?_)
      refine wp_if_neg (by simp) ?_
      refine wpAny_bind (wpAny_dictEpoch ga ta ?_)
      exact wp_if_neg (by simp) (wpAny_pure ⟨rfl, rfl, fun u hu => hj u (List.mem_cons_of_mem _ hu)⟩)
  · obtain ⟨rfl, rfl, _⟩ := hq
    exact wpAny_pure h
theorem ne_same {a b : Addr} {xs ys : List (κ × Addr × Value)} {Q : Value → Shared → Prop} (na : (a == sysModules) = false) (nb : (b == sysModules) = false) (da : s.heap.DictOfH M a xs) (db : s.heap.DictOfH M b ys) (hr : A.units < cLine) (hu : M.room A.in1) (hl : xs.length = ys.length)
    (he : ∀ x ∈ xs, ∃ p, atKey ys x.1 = some p ∧ SeqAt.EqP P w A.in1 s x.2.2 p.2 true) (h : Q (.bool false) s) : wpAny (model P w) A (compareOp .NotEq (.ref a) (.ref b)) Q E s := by
  refine wpAny_richCompare_same_room (op := .NotEq) da.typeIs db.typeIs PySem.F.slot_dict_ne (wpAny_call_entry PySem.F.slot_dict_ne da.typeIs PySem.F.entry_dict_ne ?_ (PySem.F.args_dict_ne_2 _ _)) hr
  show wpAny _ _ (Builtin.Dict.dictSlotArgs "__ne__" ⟨[.ref a, .ref b], []⟩ >>= _) _ _ s
  refine wpAny_bind ?_
  unfold Builtin.Dict.dictSlotArgs
  refine wpAny_bind (wpAny_notOrdered_dict da.typeIs ?_)
  refine wpAny_pure (wpAny_bind (wpAny_isInstance (T := "dict") db.typeIs PySem.F.sub_dict_dict ?_))
  simp only [Bool.not_true, Bool.false_eq_true, if_false]
  refine wpAny_bind (wpAny_pure (wpAny_bind (wpAny_pure (wpAny_bind (same_pairs na nb da db hu hl he ?_)))))
  exact wpAny_pure ⟨_, rfl, (fun z => nomatch z), h⟩
end
/-- d != e, two steps' dicts with the same content -/
def rNeSt : R2 := fun x y H Q => ∃ a b l1 l2, x = .ref a ∧ y = .ref b ∧ StD H a l1 ∧ StD H b l2 ∧ l1.length ≤ 60 ∧ (∀ e ∈ l1, e.1 < 1200) ∧ (∀ e ∈ l2, e.1 < 1200) ∧ l1.length = l2.length ∧ (∀ e ∈ l1, lk l2 e.1 = some e.2) ∧ Q (.bl false) H
theorem op_neSt {X : Cx} {k : Nat} (hr : Room k X.A) : OpR X (compareOp .NotEq) rNeSt := by
  rintro pins s σ H x y v u Q I rx ry ⟨a, b, l1, l2, rfl, rfl, ⟨kv1, h1, c1⟩, ⟨kv2, h2, c2⟩, _, i1, i2, hl, hk, q⟩
  cases rx
  cases ry
  have hu := hr.un
  obtain ⟨_, n1, xs, r1, d1⟩ := dt_of I.hok h1
  obtain ⟨_, n2, ys, r2, d2⟩ := dt_of I.hok h2
  have e1 : kv1.length = xs.length := Paired.length r1
  have e2 : kv2.length = ys.length := Paired.length r2
  refine ne_same n1 n2 d1 d2 (by omega) (show X.A.units + 1 < cLine by omega) (by rw [← e1, ← e2, c1.length, c2.length, hl]) (fun x hx => ?_) ⟨.bl false, H, I, rfl, q⟩
  -- the entry, the one of the other
  have key : ∀ {kvs : List (List Key × V)} {xs : List (List Key × Addr × Value)} {l : Log}, KT H kvs xs → Asc H idK amD kvs l → ∀ x ∈ xs, ∃ e ∈ l, ∃ z, x.1 = idK e.1 ∧ RelV z x.2.2 ∧ Rep H z (amD e.2) := by
    intro kvs xs l r
    induction r generalizing l with
    | nil => exact fun _ x hx => (nomatch hx)
    | @cons p q ps qs h t ih =>
      intro c x hx
      cases l with
      | nil => have := c.length; simp at this
      | cons e l =>
        obtain ⟨v, r, ek, rv, c'⟩ := c.cons_inv
        rw [List.cons.injEq] at ek
        rcases List.mem_cons.mp hx with rfl | hx
        · refine ⟨e, List.mem_cons_self, v, ?_, ?_, rv⟩
          · rw [← h.1, ek.1]
          · have := h.2.2
            rw [ek.1] at this
            exact this
        · rw [← ek.2] at c'
          obtain ⟨e', he', z⟩ := ih c' x hx
          exact ⟨e', List.mem_cons_of_mem _ he', z⟩
  obtain ⟨e, he, z, k1, k2, k3⟩ := key r1 c1 x hx
  obtain ⟨z', g1, g2⟩ := (c2.get (c := e.1) fun e' he' q => idK_inj (i2 e' he') (i1 e he) q).2 e.2 (hk e he)
  have kv := r2.val (idK e.1)
  rw [g1] at kv
  cases hq : atKey ys (idK e.1) with
  | none =>
    rw [hq] at kv
    exact absurd kv (by intro h; exact h)
  | some p =>
    rw [hq] at kv
    refine ⟨p, by rw [k1]; exact hq, ?_⟩
    have kv' : RelV z' p.2 := kv
    have pm : pl 20 (amD e.2) = true := pl_am
    have w1 := Rep.reads0 (X := X) (s := s) I.hok k3 (pl_noL pm) k2
    have w2 := Rep.reads0 (X := X) (s := s) I.hok g2 (pl_noL pm) kv'
    obtain ⟨q1, q2⟩ := pl_lay pm
    have q3 := SeqAt.eqAt_reads (amD e.2) (amD e.2) X.A.in1 s _ _ _ _ w1 w2 q1 q1 (by show X.A.units + 1 + _ < _; omega)
    rw [(pl_eqv pm pm).mpr rfl] at q3
    exact q3.eqP
end Ed

set_option maxHeartbeats 1000000
/-! EdD11: joined, hear. -/
namespace Ed
open PySem PySem.Spec PyProof.Rows L2 LamX NdefX
section
variable {P : Program} {w : World} {K : PySem.W.Frag} {mg : Str → Option Value} {base : Heap}
variable {C : Addr}
abbrev sp_joined : Sp := SpP (ι := List Nat × List Nat) (fun i => [.dat (idsD i.1), .dat (idsD i.2)]) (fun i => Lot i.1 ∧ Lot i.2 ∧ i.1.length + i.2.length < 64) (fun i => .dat (idsD (both i.1 i.2)))
theorem hear_known {ks : List Nat} {h : Hds} : ∀ {hs : Hds}, (∀ e ∈ hs, Lot e.2 ∧ ∀ c ∈ e.2, c ∈ ks) → (∀ e ∈ h, Lot e.2 ∧ ∀ c ∈ e.2, c ∈ ks) → ∀ e ∈ hearL hs h, Lot e.2 ∧ ∀ c ∈ e.2, c ∈ ks := by
  induction h with
  | nil => intro hs h1 _; exact h1
  | cons x h ih =>
    intro hs h1 h2
    refine ih (hs := pt hs x.1 (both ((lk hs x.1).getD []) x.2)) (fun e he => ?_) fun e he => h2 e (by simp [he])
    rcases pt_mem he with q | q
    · exact h1 e q
    · rw [q]
      have hx := h2 x (by simp)
      cases z : lk hs x.1 with
      | none => exact ⟨both_lot lot_nil hx.1, fun c hc => (both_mem.mp hc).elim (fun m => by cases m) (hx.2 c)⟩
      | some l =>
        have hl := h1 _ (lk_mem z)
        exact ⟨both_lot hl.1 hx.1, fun c hc => (both_mem.mp hc).elim (hl.2 c) (hx.2 c)⟩
theorem lot_sub {l ks : List Nat} (h : Lot l) (s : ∀ c ∈ l, c ∈ ks) : l.length ≤ ks.length := nodup_sub (h.2.imp Nat.ne_of_lt) s

theorem sc_joined : FnScope ["one", "two"] ["one", "two"] (defScope s_joined) := ⟨rfl, rfl, rfl, by decide +kernel, rfl, by decide +kernel, by decide +kernel⟩
theorem ok_joined (T : Tx mg) (F : DfD K mg "joined" s_joined)  : Gd P w K mg base "joined" 1 sp_joined := gd_pure (N := ["one", "two"]) F sc_joined (fun _ _ _ _ _ _ us hl => match us, hl with | [_, _], _ => rfl) (fun _ => rfl) fun f cdv A outer s H H0 E vs i hr hv hp => by
  obtain ⟨v0, v1, rfl, h0, h1⟩ := isL2 hv
  refine ⟨_, (pss_one (ps_ret (pe_ct call_tuple_of T.tuple boot_tuple (pa_cons (pe_srtSet hr rfl T.sorted T.set (by rfl) (by rfl) (pe_op op_catA (pv 0) (pv 1))) pa_nil)))), ?_⟩
  have b := both_lot hp.1 hp.2.1
  exact gr_ret (gv_tupleL (gl_srtSet (l := i.1 ++ i.2) (m := both i.1 i.2) ((gv_op (gv_var rfl h0) (gv_var rfl h1) (rg_catT (ds := i.1.map idD) (es := i.2.map idD) (by rw [List.length_map, List.length_map]; have := hp.2.2; omega))).cast (by rw [idsD, List.map_append])) (fun c hc => (List.mem_append.mp hc).elim (hp.1.1 c) (hp.2.1.1 c)) (by rw [List.length_append]; exact hp.2.2) b.2 (fun c => by rw [both_mem, List.mem_append])))

theorem sc_Replica_hear : FnScope ["self", "heads", "_", "lot", "name"] ["self", "heads"] (defScope s_Replica_hear) := ⟨rfl, rfl, rfl, by decide +kernel, rfl, by decide +kernel, by decide +kernel⟩
theorem ok_Replica_hear {Ph ch : Addr} (G_is_name : Gd P w K mg base "is_name" 1 sp_is_name) (G_is_ids : Gd P w K mg base "is_ids" 5 sp_is_ids) (T : Tx mg) (cl : RCl K C) (F : DfT K C "hear" "Replica.hear" s_Replica_hear ch) (W : DfD K mg "want_entries" s_want_entries) (TB : TabB base mg ch Ph) (G_joined : Gd P w K mg base "joined" 1 sp_joined) (M_Replica_want_known : Md P w K mg base C "want_known" 1 (sp_Replica_want_known C)) : Md P w K mg base C "hear" 8 (sp_Replica_hear C Ph) := md_ofT (N := ["self", "heads", "_", "lot", "name"]) cl.c F sc_Replica_hear (fun _ _ _ _ _ _ us hl => match us, hl with | [_, _], _ => rfl) (fun vs H Q E h => by
  obtain ⟨r, dS, dH, s, v, h, rfl, _⟩ := h
  rfl) fun f A outer s0 H vs Q E hr hsp => by
  obtain ⟨r, dS, dH, s, v, h, rfl, hR, o, rp, few, h20, up, hh, hs0, k30, tab, k⟩ := hsp
  refine ⟨_, (pss_cons (ps_expr (pe_we (k := 5) (pn := "entry") (ka := fun e : Str × List Nat => PyData.str e.1) (kb := fun e : Str × List Nat => idsD e.2) (N := ["entry"]) (fr := []) (js := []) (tb := (tAndV (tCall sp_is_name [] E0 (tCons (tOp (rIxT K) (tVar 0) (tC (.int 0))) tNil)) (tCall sp_is_ids [] E0 (tCons (tOp (rIxT K) (tVar 0) (tC (.int 1))) tNil)))) T W (pv 1) (hr.mono (by decide)) TB rfl (by show ndefB (defScope s_Replica_hear) _ _ = true; decide +kernel) rfl (nscope_by (by decide +kernel)) (fun _ _ _ _ _ _ => rfl) (fun A outer s H ⟨_, _, _, _, _, _, _⟩ f e hr => by cases e; exact (pe_and (pe_gd G_is_name hr (pa_cons (pe_ix ix_tup (pv 0) pe_int (fun _ _ => rfl)) pa_nil)) (pe_one (pe_gd G_is_ids hr (pa_cons (pe_ix ix_tup (pv 0) pe_int (fun _ _ => rfl)) pa_nil)))))))
    (pss_cons (ps_for PassesOwn.never rfl (pi_tup (pv 1)) (pg_tup rfl (pgs_cons (pgn 2 sc_Replica_hear.nd) (pgs_cons (pgn 3 sc_Replica_hear.nd) pgs_nil))) (pss_one (ps_expr (pe_md M_Replica_want_known hr (pv 0) (pa_cons (pv 3) pa_nil)))))
    (pss_one (ps_for PassesOwn.never rfl (pi_tup (pv 1)) (pg_tup rfl (pgs_cons (pgn 4 sc_Replica_hear.nd) (pgs_cons (pgn 3 sc_Replica_hear.nd) pgs_nil))) (pss_one (ps_dput (hu_of hr) (pe_fld (pv 0) rfl) (pv 4) (pe_gd G_joined hr (pa_cons (pe_dget2 (hu_of hr) (pe_fld (pv 0) rfl) (pv 4) (pe_tup pa_nil) ⟨rfl, rfl, rfl, rfl⟩) (pa_cons (pv 3) pa_nil))) rfl)))))), ?_⟩
  have neT := hR.neT tab
  have ne := hR.ne
  have nd := hR.ned
  have jT : (SA fun x => x = dH ∨ x = Ph).J H := fun x m => by
    rcases m with rfl | rfl
    · exact hR.j _ (.inr (.inr rfl))
    · obtain ⟨ps, h, _⟩ := tab
      exact ⟨_, h, rfl⟩
  refine ⟨v, rfl, tab, fun H1 c' grow tab1 hc => ?_⟩
  have g1 := grow.t tab tab1
  have hR1 := hR.to g1 neT.1 neT.2.1 neT.2.2
  have rp1 := rp.mono g1.tups
  refine ⟨hc, h, rp1, by omega, fun i a b ha hb => ?_, fun e he H2 v2 s2 rv2 => ?_, fun H2 s2 => ?_⟩
  · have m1 : (h.map (·.1))[i]? = some a.1 := by rw [List.getElem?_map, ha]; rfl
    have m2 : (h.map (·.1))[i + 1]? = some b.1 := by rw [List.getElem?_map, hb]; rfl
    obtain ⟨i1, e1⟩ := List.getElem?_eq_some_iff.mp m1
    obtain ⟨i2, e2⟩ := List.getElem?_eq_some_iff.mp m2
    have lt := List.pairwise_iff_getElem.mp up i (i + 1) i1 i2 (by omega)
    rw [e1, e2] at lt
    exact ⟨by simp [PySem.W.alike], fun e => (nomatch e), (hh a (List.mem_of_getElem? ha)).2.1, (hh b (List.mem_of_getElem? hb)).2.1, lt⟩
  · exact gv_andV (b := true) (c := true) (gv_call e.1 (ga_one (Gv.str_val (gv_ixT (i := 0) (ds := [.str e.1, idsD e.2]) (gv_vd rfl rv2) gv_int rfl rfl))) (hh e he).1) fun _ => gv_call e.2 (ga_one (gv_ixT (i := 1) (ds := [.str e.1, idsD e.2]) (gv_vd rfl rv2) gv_int rfl rfl)) (hh e he).2.2.1
  have hR2 := hR1.same s2
  have rp2 := rp1.mono (Same.tups s2)
  have t2 : (SA fun x => x = dH ∨ x = Ph).T H H2 := (SA.mono g1 (fun x e => .inr e) jT).trans (.of_same (SA.mono g1 (fun x e => .inr e) jT).j' s2)
  have tab2 : TabS H2 Ph qH := TabS.to (S := S0) tab1 (S0.of s2) fun m => m
  obtain ⟨dx, vF, vA, hr1, rF, rA, dSt, dHd⟩ := id hR2
  dsimp only
  have two : ∀ {H' : Hp} {z : Str × List Nat} {x : V}, YD (fun e : Str × List Nat => .tuple [.str e.1, idsD e.2]) z x H' → ∃ t b, x = .ref t ∧ H' t = some (.tup [.str z.1, b]) ∧ Rep H' b (idsD z.2) := fun h => by
    obtain ⟨t, a, b, e1, e2, e3, e4⟩ := pair_at h
    cases Rep.inv_str e3
    exact ⟨t, b, e1, e2, e4⟩
  -- all is known
  refine loop_at (S := S0) (l := h) (gi_tupA (enc := fun e : Str × List Nat => .tuple [.str e.1, idsD e.2]) (gv_vd (i := 1) rfl rp2)) trivial (fun i σ' H' => S0.T H2 H' ∧ ∃ a b, σ' = [some (.ref r), some v, a, b, none]) (fun H3 s3 => ⟨S0.of s3, none, none, rfl⟩) (fun i z x σ' H3 hz a3 hq hy => ?_) fun σ' H3 a3 hq => ?_
  · obtain ⟨H0, ⟨_, a, b, rfl⟩, _⟩ := hq
    obtain ⟨t, vb, rfl, ht, rb⟩ := two hy
    have hzm := List.mem_of_getElem? hz
    refine ⟨[some (.ref r), some v, some (.str z.1), some vb, none], fun Q qq => g2_ok ht qq, fun D' _ kk _ => ?_⟩
    refine gn_drop (S := S0) (o := .val .non) ?_ H3 a3.fin D' fun H4 a4 => kk _ H4 a4 ⟨a3.trans a4, _, _, rfl⟩
    exact gv_meth (args := fun _ l => [.dat (idsD l)]) (pre := fun s l => ∀ c ∈ l, c ∈ keys s.log) (res := fun _ _ => .val .non) z.2 (gv_val rfl) (fun H4 t4 => hR2.same (S0.same (a3.trans t4))) (ga_one (gv_vd rfl rb)) o (hh z hzm).2.2.2.2
  obtain ⟨_, a0, b0, rfl⟩ := hq
  dsimp only
  have t3 : (SA fun x => x = dH ∨ x = Ph).T H H3 := t2.trans (.of_same t2.j' (S0.same a3))
  have hd3 := dHd.same (S0.same a3)
  have j3 : (SA fun x => x = dH).J H3 := fun x m => by
    obtain ⟨kvs, h1, _⟩ := hd3
    exact ⟨_, (show x = dH from m) ▸ h1, rfl⟩
  refine loop_at (S := SA fun x => x = dH) (l := h) (gi_tupA (enc := fun e : Str × List Nat => .tuple [.str e.1, idsD e.2]) (gv_vd (i := 1) rfl (rp2.mono a3.tups))) j3
    (fun i σ' H' => ∃ u w z, σ' = [some (.ref r), some v, u, w, z] ∧ (SA fun x => x = dH).T H3 H' ∧ HdD H' dH (hearL s.hs (h.take i))) (fun H5 s5 => ⟨_, _, _, rfl, .of_same j3 s5, hd3.same s5⟩) (fun i z x σ' H5 hz a5 hq hy => ?_) fun σ' H5 a5 hq => ?_
  · obtain ⟨H0, ⟨u, w, y, rfl, t0, st0⟩, s0'⟩ := hq
    have st0 := st0.same s0'
    obtain ⟨t, vb, rfl, ht, rb⟩ := two hy
    have hzm := List.mem_of_getElem? hz
    have hk := hear_known (ks := keys s.log) (h := h.take i) hs0 fun e he => ⟨(hh e (List.mem_of_mem_take he)).2.2.1, (hh e (List.mem_of_mem_take he)).2.2.2.2⟩
    have lent : (hearL s.hs (h.take i)).length ≤ 100 := by
      have h1 := hear_len (h := h.take i) (hs := s.hs)
      have h2 : (h.take i).length ≤ h.length := List.length_take_le' _ _
      omega
    have lotz : Lot ((lk (hearL s.hs (h.take i)) z.1).getD []) ∧ ((lk (hearL s.hs (h.take i)) z.1).getD []).length ≤ 30 := by
      cases e : lk (hearL s.hs (h.take i)) z.1 with
      | none => exact ⟨lot_nil, Nat.zero_le _⟩
      | some l =>
        have q := hk _ (lk_mem e)
        exact ⟨q.1, Nat.le_trans (lot_sub q.1 q.2) k30⟩
    have hr5 : H5 r = some (.ins C dx (insF (hnd s.i) vF vA dS s.m dH)) := a5.k _ _ ne.2 (S0.same a3 _ _ hr1)
    refine ⟨[some (.ref r), some v, u, some vb, some (.str z.1)], fun Q qq => ⟨t, _, rfl, SqT.of ht, rfl, _, _, rfl, _, _, rfl, rfl, qq⟩, fun D' _ kk _ => ?_⟩
    have gB : ∀ {H6 : Hp}, S0.T H5 H6 → Gv S0 (tFld K (tVar 0) "by_name") [some (.ref r), some v, u, some vb, some (.str z.1)] H6 (.val (.ref dH)) := fun a6 => gv_fld (o := .val (.ref dH)) (gv_val (i := 0) rfl) (fun H7 t7 => S0.same (a6.trans t7) _ _ hr5) cl.c cl.by_name l_by_name rfl
    refine Gv.fin (S := S0) (gv_call (ι := List Nat × List Nat) ((lk (hearL s.hs (h.take i)) z.1).getD [], z.2) (ga_two (gv_dget2S (gB S0.r) (gv_val (i := 4) rfl) (gv_tup (ds := []) ga_nil (by decide)) fun H3 t3 => st0.same (S0.same t3)) (gv_vd (i := 3) rfl rb)) ⟨lotz.1, (hh z hzm).2.2.1, by have := lotz.2; have := (hh z hzm).2.2.2.1; dsimp only; omega⟩) trivial fun v3 H6 a6 rv3 => ?_
    have rv3 : Rep H6 v3 (idsD (both ((lk (hearL s.hs (h.take i)) z.1).getD []) z.2)) := rv3
    refine (gB a6).fin trivial fun v' H7 a7 ev => ?_
    have ev : v' = .ref dH := ev
    subst ev
    have a67 := a6.trans a7
    refine ⟨_, rfl, ?_⟩
    obtain ⟨H8, dp, ⟨kvs, e8⟩, st8⟩ := hdd_put (Q := fun H8 => (∃ kvs, H8 = upd H7 dH (.dK kvs)) ∧ HdD H8 dH (pt (hearL s.hs (h.take i)) z.1 (both ((lk (hearL s.hs (h.take i)) z.1).getD []) z.2))) (w := z.1) (st0.same (S0.same a67)) lent (rv3.mono a7.tups) fun kvs st => ⟨⟨kvs, rfl⟩, st⟩
    have t7 : (SA fun x => x = dH).T H5 H7 := .of_same a5.j' (S0.same a67)
    have t8 : (SA fun x => x = dH).T H7 H8 := by rw [e8]; exact SA.put t7.j' rfl rfl
    refine ⟨dH, H8, rfl, dp, kk _ H8 (t7.trans t8) ⟨_, _, _, rfl, (t0.trans (.of_same t0.j' s0')).trans (t7.trans t8), ?_⟩⟩
    rw [hearL_take hz]
    exact st8
  · obtain ⟨u, w, y, rfl, t5, st5⟩ := hq
    rw [List.take_length] at st5
    have tf := t3.trans (SA.mono t5 (fun x e => .inl e) t3.j')
    have j2 : (SA fun x => x = dH).J H2 := fun x m => by
      obtain ⟨kvs, h1, _⟩ := dHd
      exact ⟨_, (show x = dH from m) ▸ h1, rfl⟩
    have t25 := (Sys.T.of_same j2 (S0.same a3)).trans t5
    exact k H5 tf ⟨dx, vF, vA, t25.k _ _ ne.2 hr1, rF.mono t25.tups, rA.mono t25.tups, dSt.to t25 nd, st5⟩ (TabS.to tab2 t25 fun e => neT.2.2 (show Ph = dH from e).symm)

end
end Ed

set_option maxHeartbeats 1000000
/-! EdVa: a vault as it stands. -/
namespace Ed
open PySem PySem.Spec PyProof.Rows L2
structure VSt where
  fs : List Kd
  line : List Int
  st : List Am
structure VO (s : VSt) : Prop where
  fs : OkF s.fs
  line : OkR s.fs s.line
  st : ∀ a ∈ s.st, OkA s.fs a
  few : s.st.length ≤ 100
def vauF (vF vL : V) (lS lB : Addr) : List (Str × V) := [("kinds", vF), ("beginning", vL), ("steps", .ref lS), ("bases", .ref lB)]
def VAt (C : Addr) (H : Hp) (a lS lB : Addr) (s : VSt) : Prop := ∃ dx vF vL xs ys, H a = some (.ins C dx (vauF vF vL lS lB)) ∧ Rep H vF (fieldsD s.fs) ∧ Rep H vL (tupI s.line) ∧ H lS = some (.lst xs) ∧ Reps H xs (s.st.map amD) ∧ H lB = some (.lst ys) ∧ ys.length = s.st.length ∧ lS ≠ lB
structure VCl (K : PySem.W.Frag) (C : Addr) : Prop where
  c : Cls K C
  kinds : NoAttr K C "kinds"
  beginning : NoAttr K C "beginning"
  steps : NoAttr K C "steps"
  bases : NoAttr K C "bases"
section
variable {vF vL : V} {lS lB : Addr}
theorem v_kinds : (vauF vF vL lS lB).lookup ("kinds" : Str) = some vF := rfl
theorem v_beginning : (vauF vF vL lS lB).lookup ("beginning" : Str) = some vL := rfl
theorem v_steps : (vauF vF vL lS lB).lookup ("steps" : Str) = some (.ref lS) := rfl
theorem v_bases : (vauF vF vL lS lB).lookup ("bases" : Str) = some (.ref lB) := rfl
end
def vwalk (s : VSt) (lot : List Nat) : Am := lot.foldl (fun a j => puts s.fs a (s.st.getD j [])) (amOf s.fs s.line)
theorem VAt.same {C : Addr} {H H' : Hp} {r lS lB : Addr} {s : VSt} (h : VAt C H r lS lB s) (t : Same H H') : VAt C H' r lS lB s := by
  obtain ⟨dx, vF, vA, xs, ys, h1, h2, h3, h4, h5, h6, h7⟩ := h
  exact ⟨dx, vF, vA, xs, ys, t _ _ h1, h2.mono (Same.tups t), h3.mono (Same.tups t), t _ _ h4, h5.mono (Same.tups t), t _ _ h6, h7⟩
theorem VAt.ne {C : Addr} {H : Hp} {r lS lB : Addr} {s : VSt} (h : VAt C H r lS lB s) : r ≠ lS ∧ r ≠ lB ∧ lS ≠ lB := by
  obtain ⟨dx, vF, vA, xs, ys, h1, h2, h3, h4, h5, h6, _, h7⟩ := h
  exact ⟨fun e => (by rw [e, h4] at h1; cases h1), fun e => (by rw [e, h6] at h1; cases h1), h7⟩
theorem VAt.j {C : Addr} {H : Hp} {r lS lB : Addr} {s : VSt} (h : VAt C H r lS lB s) : (SA fun x => x = lS ∨ x = lB).J H := fun a m => by
  obtain ⟨dx, vF, vA, xs, ys, h1, h2, h3, h4, h5, h6, _⟩ := h
  rcases m with rfl | rfl
  · exact ⟨_, h4, rfl⟩
  · exact ⟨_, h6, rfl⟩
theorem vwalk_ok {s : VSt} (o : VO s) {lot : List Nat} (h : ∀ j ∈ lot, j < s.st.length) : OkA s.fs (vwalk s lot) := by
  have key : ∀ (lot : List Nat) (a : Am), OkA s.fs a → (∀ j ∈ lot, j < s.st.length) → OkA s.fs (lot.foldl (fun a j => puts s.fs a (s.st.getD j [])) a) := by
    intro lot
    induction lot with
    | nil => intro a ha _; exact ha
    | cons c l ih => intro a ha hl; exact ih _ (puts_ok o.fs ha (o.st _ (getD_mem (hl c (by simp)) []))) fun x hx => hl x (by simp [hx])
  exact key lot _ (amOf_ok o.fs o.line) h
theorem vwalk_take {s : VSt} {lot : List Nat} {i c : Nat} (e : lot[i]? = some c) : vwalk s (lot.take (i + 1)) = puts s.fs (vwalk s (lot.take i)) (s.st.getD c []) := by
  rw [List.take_add_one, e]
  simp [vwalk]
/-- a lot of the vault -/
def VLot (s : VSt) (lot : List Nat) : Prop := lot.length ≤ 100 ∧ (∀ x ∈ lot, x < s.st.length) ∧ lot.Pairwise (· < ·)
def spV (C : Addr) {ι : Type} (args : VSt → ι → List Ob) (pre : VSt → ι → Prop) (res : VSt → ι → Ob) : Sp := fun vs H Q _ => ∃ r lS lB s i us, vs = .ref r :: us ∧ VAt C H r lS lB s ∧ VO s ∧ IsL H us (args s i) ∧ pre s i ∧ ∀ v H', Same H H' → Is H' v (res s i) → Q v H'
section
variable {S : Sys} {H H' H1 H2 : Hp} {σ : L2.St} {te ta tb tc tl td ty : TE} {tt : TT} {tr : TA} {o p q : Ob} {os ps : List Ob} {b : Bool} {v x y z : V} {K : PySem.W.Frag} {C r lS lB : Addr} {s : VSt}
variable {ι : Type} {args : VSt → ι → List Ob} {pre : VSt → ι → Prop} {res : VSt → ι → Ob}
theorem gv_methV {m : Str} (i : ι) (h : Gv S ta σ H (.val (.ref r))) (hr : ∀ H1, S.T H H1 → VAt C H1 r lS lB s) (ha : GvA S tr σ H (args s i)) (ok : VO s) (hp : pre s i) (hm : ∀ vF vL lS lB, (vauF vF vL lS lB).lookup m = none := by exact fun _ _ _ _ => rfl) :
    Gv S (tMeth C m (spV C args pre res) [] E0 ta tr) σ H (res s i) := fun H1 t Q k =>
  h H1 t _ fun x H2 t2 hx => by
    cases hx
    obtain ⟨dx, vF, vL, xs, ys, h1, _⟩ := hr H2 (t.trans t2)
    refine ⟨r, dx, _, rfl, h1, hm _ _ _ _, ha H2 (t.trans t2) _ fun vs H3 t3 hvs => ?_⟩
    exact ⟨r, lS, lB, s, i, vs, by rw [List.append_nil], hr H3 ((t.trans t2).trans t3), ok, hvs, hp, fun v H4 sm hv => k v H4 ((t2.trans t3).trans (.of_same t3.j' sm)) hv⟩
end
section
variable {P : Program} {w : World} {K : PySem.W.Frag} {mg : Str → Option Value} {base : Heap} {C : Addr} {ι : Type} {args : VSt → ι → List Ob} {pre : VSt → ι → Prop} {res : VSt → ι → Ob}
theorem vd_pure {m qn : Str} {st : Stmt} {N ps : List Str} {k : Nat} (c : Cls K C) (F : DfM K C m qn st) (S : FnScope N ps (defScope st))
    (hb : ∀ (kV doc pm : Value) (an : Option Addr) (cdv ct : Value) (us : List Value), us.length = ps.length → bindArgs (PySem.W.fnOf m qn (defArgs st) (defBody st) (defScope st) .none kV doc pm an cdv ct) ⟨us, []⟩ = pure (ps.zip us))
    (len : ∀ s i, (args s i).length + 1 = ps.length)
    (hbody : ∀ (f : Addr) (cdv : Value) (A : Around) (outer : List Env) (s0 : Shared) (H H0 : Hp) (E : XK) (r lS lB : Addr) (s : VSt) (us : List V) (i : ι), Room k (A.deeper (envOfC qn (defScope st) s0.heap.objs.size f cdv)) → VAt C H r lS lB s → VO s → IsL H us (args s i) → pre s i →
      ∃ t, PSs (cxOf CX0 P w K mg base N qn (defScope st) f cdv A outer s0 H0 E).nox (defBody st) t ∧ Gr S0 t (L2.start N (.ref r :: us)) H (res s i)) : Md P w K mg base C m (k + 1) (spV C args pre res) := by
  refine md_of c F S hb (fun vs H Q E h => by obtain ⟨r, lS, lB, s, i, us, rfl, _, _, h, _⟩ := h; rw [List.length_cons, h.length, len s i]) fun f cdv A outer s0 H vs Q E hr ⟨r, lS, lB, s, i, us, ev, h1, h2, h3, h4, h5⟩ => ?_
  subst ev
  obtain ⟨t, ht, g⟩ := hbody f cdv A outer s0 H H E r lS lB s us i hr h1 h2 h3 h4
  exact ⟨t, ht, g H S0.r _ fun v H2 a hv => h5 v H2 (S0.same a) hv⟩
theorem vd_none {m qn : Str} {st : Stmt} {N ps : List Str} {k : Nat} (c : Cls K C) (F : DfM K C m qn st) (S : FnScope N ps (defScope st))
    (hb : ∀ (kV doc pm : Value) (an : Option Addr) (cdv ct : Value) (us : List Value), us.length = ps.length → bindArgs (PySem.W.fnOf m qn (defArgs st) (defBody st) (defScope st) .none kV doc pm an cdv ct) ⟨us, []⟩ = pure (ps.zip us))
    (len : ∀ s i, (args s i).length + 1 = ps.length)
    (hbody : ∀ (f : Addr) (cdv : Value) (A : Around) (outer : List Env) (s0 : Shared) (H H0 : Hp) (E : XK) (r lS lB : Addr) (s : VSt) (us : List V) (i : ι), Room k (A.deeper (envOfC qn (defScope st) s0.heap.objs.size f cdv)) → VAt C H r lS lB s → VO s → IsL H us (args s i) → pre s i →
      ∃ t, PSs (cxOf CX0 P w K mg base N qn (defScope st) f cdv A outer s0 H0 E).nox (defBody st) t ∧ Gf S0 t (L2.start N (.ref r :: us)) H) : Md P w K mg base C m (k + 1) (spV C args pre fun _ _ => .val .non) := by
  refine md_of c F S hb (fun vs H Q E h => by obtain ⟨r, lS, lB, s, i, us, rfl, _, _, h, _⟩ := h; rw [List.length_cons, h.length, len s i]) fun f cdv A outer s0 H vs Q E hr ⟨r, lS, lB, s, i, us, ev, h1, h2, h3, h4, h5⟩ => ?_
  subst ev
  obtain ⟨t, ht, g⟩ := hbody f cdv A outer s0 H H E r lS lB s us i hr h1 h2 h3 h4
  exact ⟨t, ht, g H S0.r _ fun σ' H2 a => h5 .non H2 (S0.same a) rfl⟩
end
abbrev sp_Vault_edits (C : Addr) : Sp := spV C (ι := Unit) (fun _ _ => []) (fun _ _ => True) (fun s _ => .val (.int (s.st.length : Int)))
abbrev sp_Vault_amounts_in (C : Addr) : Sp := spV C (ι := List Nat) (fun _ l => [.dat (natD l)]) (fun s l => ∀ x ∈ l, x < s.st.length) (fun s l => .dat (amD (vwalk s l)))
abbrev sp_Vault_amounts (C : Addr) : Sp := spV C (ι := List Nat) (fun _ l => [.dat (natD l)]) (fun s l => VLot s l) (fun s l => .dat (amD (vwalk s l)))
abbrev sp_Vault_want_edit (C : Addr) : Sp := spV C (ι := Nat) (fun _ j => [.val (.int (j : Int))]) (fun s j => j < s.st.length) (fun _ _ => .val .non)
abbrev sp_Vault_steps_of (C : Addr) : Sp := spV C (ι := Nat) (fun _ j => [.val (.int (j : Int))]) (fun s j => j < s.st.length) (fun s j => .dat (amD (s.st.getD j [])))
def sp_Vault_edit (C : Addr) : Sp := fun vs H Q _ => ∃ (r lS lB : Addr) (s : VSt) (v1 v2 : V) (lot : List Nat) (rec : List Int), vs = [.ref r, v1, v2] ∧ VAt C H r lS lB s ∧ VO s ∧ s.st.length < 90 ∧ Rep H v1 (natD lot) ∧ VLot s lot ∧ Rep H v2 (tupI rec) ∧ OkR s.fs rec ∧
  ∀ H', (SA fun x => x = lS ∨ x = lB).T H H' → VAt C H' r lS lB { s with st := s.st ++ [stps s.fs (vwalk s lot) (amOf s.fs rec)] } → Q (.int (s.st.length : Int)) H'
def sp_Vault_init (C : Addr) : Sp := fun vs H Q _ => ∃ (r dx : Addr) (v1 v2 : V) (fs : List Kd) (line : List Int), vs = [.ref r, v1, v2] ∧ H r = some (.ins C dx []) ∧ Rep H v1 (fieldsD fs) ∧ Rep H v2 (tupI line) ∧ OkF fs ∧ OkR fs line ∧
  ∀ H' lS lB, (SA fun x => x = r).T H H' → H lS = none → H lB = none → VAt C H' r lS lB ⟨fs, line, []⟩ → Q .non H'
end Ed

set_option maxHeartbeats 1000000
/-! EdD12: the vault. -/
namespace Ed
open PySem PySem.Spec PyProof.Rows L2
section
variable {P : Program} {w : World} {K : PySem.W.Frag} {mg : Str → Option Value} {base : Heap}
variable {C : Addr}
theorem sc_Vault_edits : FnScope ["self"] ["self"] (defScope s_Vault_edits) := ⟨rfl, rfl, rfl, by decide +kernel, rfl, by decide +kernel, by decide +kernel⟩
theorem ok_Vault_edits (T : Tx mg) (cl : VCl K C) (F : DfM K C "edits" "Vault.edits" s_Vault_edits)  : Md P w K mg base C "edits" 1 (sp_Vault_edits C) := vd_pure (N := ["self"]) cl.c F sc_Vault_edits (fun _ _ _ _ _ _ us hl => match us, hl with | [_], _ => rfl) (fun _ _ => rfl) fun f cdv A outer s0 H H0 E r lS lB s us i hr hR ok hv hp => by
  obtain ⟨dx, vF, vL, xs, ys, hr1, rF, rL, hS, rS, hB, lyB, nSB⟩ := id hR
  have ev := isL0 hv
  subst ev
  refine ⟨_, (pss_one (ps_ret (pe_cb call_len_seq T.len boot_len (pa_cons (pe_fld (pv 0) rfl) pa_nil)))), ?_⟩
  exact gr_ret ((gv_lenV (xs := xs) (gv_fld (o := .val (.ref lS)) (gv_val rfl) (fun H4 t => S0.same t _ _ hr1) cl.c cl.steps v_steps rfl) (fun H4 t => S0.same t _ _ hS)).int_cast (by rw [rS.length, List.length_map]))

theorem sc_Vault_amounts_in : FnScope ["self", "lot", "amounts", "edit"] ["self", "lot"] (defScope s_Vault_amounts_in) := ⟨rfl, rfl, rfl, by decide +kernel, rfl, by decide +kernel, by decide +kernel⟩
theorem ok_Vault_amounts_in (T : Tx mg) (cl : VCl K C) (F : DfM K C "amounts_in" "Vault.amounts_in" s_Vault_amounts_in) (G_amounts_of : Gd P w K mg base "amounts_of" 1 sp_amounts_of) (G_amounts_behind : Gd P w K mg base "amounts_behind" 2 sp_amounts_behind) : Md P w K mg base C "amounts_in" 3 (sp_Vault_amounts_in C) := vd_pure (N := ["self", "lot", "amounts", "edit"]) cl.c F sc_Vault_amounts_in (fun _ _ _ _ _ _ us hl => match us, hl with | [_, _], _ => rfl) (fun _ _ => rfl) fun f cdv A outer s0 H H0 E r lS lB s us i hr hR ok hv hp => by
  obtain ⟨dx, vF, vL, xs, ys, hr1, rF, rL, hS, rS, hB, lyB, nSB⟩ := id hR
  obtain ⟨v0, rfl, h0⟩ := isL1 hv
  refine ⟨_, (pss_cons (psn 2 sc_Vault_amounts_in.nd (pe_gd G_amounts_of hr (pa_cons (pe_fld (pv 0) rfl) (pa_cons (pe_fld (pv 0) rfl) pa_nil))))
    (pss_cons (ps_for PassesOwn.never rfl (pi_tup (pv 1)) (pgn 3 sc_Vault_amounts_in.nd) (pss_one (psn 2 sc_Vault_amounts_in.nd (pe_gd G_amounts_behind hr (pa_cons (pe_fld (pv 0) rfl) (pa_cons (pv 2) (pa_cons (pe_ix ix_list (pe_fld (pv 0) rfl) (pv 3) (fun _ _ => rfl)) pa_nil)))))))
    (pss_one (ps_ret (pv 2))))), ?_⟩
  refine gr_set (gv_call (ι := List Kd × List Int) (s.fs, s.line) (ga_two (gv_fldD (gv_val rfl) (fun H4 t => S0.same t _ _ hr1) cl.c cl.kinds v_kinds rF) (gv_fldD (gv_val rfl) (fun H4 t => S0.same t _ _ hr1) cl.c cl.beginning v_beginning rL)) ⟨ok.fs, ok.line⟩) fun v1 H1 a1 hv1 => ?_
  refine gre_seq (gx_for (S := S0) (l := i) (gi_tup (enc := fun n : Nat => PyData.int (n : Int)) (gv_var rfl (h0.to a1))) (fun j σ' H' => ∃ v u, σ' = [some (.ref r), some v0, some v, u] ∧ Rep H' v (amD (vwalk s (i.take j)))) (fun H2 a2 => ⟨v1, none, rfl, Rep.mono a2.tups hv1⟩) fun j z x σ' H2 hz a2 hq hy => ?_) fun σ' H2 a2 hq => ?_
  · obtain ⟨H3, ⟨v, u, rfl, rv⟩, a3, s3⟩ := hq
    have rv := rv.mono a3.tups
    have hk := hp z (List.mem_of_getElem? hz)
    have a12 := a1.trans a2
    have hx : x = .int (z : Int) := Rep.inv_int hy
    subst hx
    have lx : xs.length = s.st.length := by rw [rS.length, List.length_map]
    refine ⟨[some (.ref r), some v0, some v, some (.int (z : Int))], fun _ q => q, Gx.imp (gx_set (gv_call (ι := List Kd × List (List Int) × List (List Int)) (s.fs, vwalk s (i.take j), s.st.getD z []) (ga_three (gv_fldD (gv_val rfl) (fun H4 t => S0.same (a12.trans t) _ _ hr1) cl.c cl.kinds v_kinds (rF.mono a12.tups)) (gv_vd rfl rv) (gv_ixQ (i := z) (o := .dat (amD (s.st.getD z []))) (gv_fld (o := .val (.ref lS)) (gv_val rfl) (fun H4 t => S0.same (a12.trans t) _ _ hr1) cl.c cl.steps v_steps rfl) (gv_val rfl) rfl (fun H4 t => SqL.of (S0.same (a12.trans t) _ _ hS)) (List.getElem?_eq_getElem (by omega)) ((rS.mono a12.tups).get (List.getElem?_eq_getElem (by omega)) (map_getD hk [])))) ⟨ok.fs, vwalk_ok ok fun c hc => hp c (List.mem_of_mem_take hc), ok.st _ (getD_mem hk [])⟩).ge) fun σ'' H4 a4 ⟨v2, h2, e2⟩ => ⟨v2, _, e2, ?_⟩⟩
    rw [vwalk_take hz]
    exact h2
  · obtain ⟨v, u, rfl, rv⟩ := hq
    rw [List.take_length] at rv
    exact gr_ret (gv_vd rfl rv)

theorem sc_Vault_amounts : FnScope ["self", "lot"] ["self", "lot"] (defScope s_Vault_amounts) := ⟨rfl, rfl, rfl, by decide +kernel, rfl, by decide +kernel, by decide +kernel⟩
theorem ok_Vault_amounts (T : Tx mg) (cl : VCl K C) (F : DfM K C "amounts" "Vault.amounts" s_Vault_amounts) (G_want_lot : Gd P w K mg base "want_lot" 5 sp_want_lot) (M_Vault_edits : Md P w K mg base C "edits" 1 (sp_Vault_edits C)) (M_Vault_amounts_in : Md P w K mg base C "amounts_in" 3 (sp_Vault_amounts_in C)) : Md P w K mg base C "amounts" 6 (sp_Vault_amounts C) := vd_pure (N := ["self", "lot"]) cl.c F sc_Vault_amounts (fun _ _ _ _ _ _ us hl => match us, hl with | [_, _], _ => rfl) (fun _ _ => rfl) fun f cdv A outer s0 H H0 E r lS lB s us i hr hR ok hv hp => by
  obtain ⟨dx, vF, vL, xs, ys, hr1, rF, rL, hS, rS, hB, lyB, nSB⟩ := id hR
  obtain ⟨v0, rfl, h0⟩ := isL1 hv
  refine ⟨_, (pss_cons (ps_expr (pe_gd G_want_lot hr (pa_cons (pe_md0 M_Vault_edits hr (pv 0)) (pa_cons (pv 1) pa_nil))))
    (pss_one (ps_ret (pe_md M_Vault_amounts_in hr (pv 0) (pa_cons (pv 1) pa_nil))))), ?_⟩
  exact gr_seq (gn_drop (gv_call (ι := Int × List Nat) ((s.st.length : Int), i) (ga_two (gv_methV (args := fun _ _ => []) (pre := fun _ _ => True) (res := fun s _ => .val (.int (s.st.length : Int))) () (gv_val rfl) (fun H1 t => hR.same (S0.same t)) ga_nil ok trivial) (gv_var rfl h0)) ⟨Nat.le_trans hp.1 (by decide), fun x hx => ⟨by have := hp.2.1 x hx; have := ok.few; omega, by have := hp.2.1 x hx; dsimp only; omega⟩, hp.2.2⟩)) (gr_ret (gv_methV (args := fun _ l => [.dat (natD l)]) (pre := fun s l => ∀ x ∈ l, x < s.st.length) (res := fun s l => .dat (amD (vwalk s l))) i (gv_val rfl) (fun H1 t => hR.same (S0.same t)) (ga_one (gv_var rfl h0)) ok hp.2.1))

theorem sc_Vault_want_edit : FnScope ["self", "edit"] ["self", "edit"] (defScope s_Vault_want_edit) := ⟨rfl, rfl, rfl, by decide +kernel, rfl, by decide +kernel, by decide +kernel⟩
theorem ok_Vault_want_edit (T : Tx mg) (cl : VCl K C) (F : DfM K C "want_edit" "Vault.want_edit" s_Vault_want_edit) (G_is_below : Gd P w K mg base "is_below" 3 sp_is_below) (M_Vault_edits : Md P w K mg base C "edits" 1 (sp_Vault_edits C)) : Md P w K mg base C "want_edit" 4 (sp_Vault_want_edit C) := vd_none (N := ["self", "edit"]) cl.c F sc_Vault_want_edit (fun _ _ _ _ _ _ us hl => match us, hl with | [_, _], _ => rfl) (fun _ _ => rfl) fun f cdv A outer s0 H H0 E r lS lB s us i hr hR ok hv hp => by
  obtain ⟨dx, vF, vL, xs, ys, hr1, rF, rL, hS, rS, hB, lyB, nSB⟩ := id hR
  obtain ⟨v0, rfl, h0⟩ := isL1 hv
  refine ⟨_, (pss_one (ps_if (pt_not (pt_val (pe_gd G_is_below hr (pa_cons (pv 1) (pa_cons (pe_md0 M_Vault_edits hr (pv 0)) pa_nil))))) pss_never pss_nil)), ?_⟩
  exact (gn_skip (gt_no (gt_B (gv_call (ι := Int × Int) ((i : Int), (s.st.length : Int)) (ga_two (gv_var rfl h0) (gv_methV (args := fun _ _ => []) (pre := fun _ _ => True) (res := fun s _ => .val (.int (s.st.length : Int))) () (gv_val rfl) (fun H1 t => hR.same (S0.same t)) ga_nil ok trivial)) ⟨by dsimp only; omega, by dsimp only; omega⟩)))).gf

theorem sc_Vault_steps_of : FnScope ["self", "edit"] ["self", "edit"] (defScope s_Vault_steps_of) := ⟨rfl, rfl, rfl, by decide +kernel, rfl, by decide +kernel, by decide +kernel⟩
theorem ok_Vault_steps_of (T : Tx mg) (cl : VCl K C) (F : DfM K C "steps_of" "Vault.steps_of" s_Vault_steps_of) (M_Vault_want_edit : Md P w K mg base C "want_edit" 4 (sp_Vault_want_edit C)) : Md P w K mg base C "steps_of" 5 (sp_Vault_steps_of C) := vd_pure (N := ["self", "edit"]) cl.c F sc_Vault_steps_of (fun _ _ _ _ _ _ us hl => match us, hl with | [_, _], _ => rfl) (fun _ _ => rfl) fun f cdv A outer s0 H H0 E r lS lB s us i hr hR ok hv hp => by
  obtain ⟨dx, vF, vL, xs, ys, hr1, rF, rL, hS, rS, hB, lyB, nSB⟩ := id hR
  obtain ⟨v0, rfl, h0⟩ := isL1 hv
  have lx : xs.length = s.st.length := by rw [rS.length, List.length_map]
  refine ⟨_, (pss_cons (ps_expr (pe_md M_Vault_want_edit hr (pv 0) (pa_cons (pv 1) pa_nil)))
    (pss_one (ps_ret (pe_ix ix_list (pe_fld (pv 0) rfl) (pv 1) (fun _ _ => rfl))))), ?_⟩
  exact gr_seq (gn_drop (gv_methV (m := "want_edit") (ι := Nat) (args := fun _ j => [.val (.int (j : Int))]) (pre := fun s j => j < s.st.length) (res := fun _ _ => .val .non) i (gv_val rfl) (fun H1 t => hR.same (S0.same t)) (ga_one (gv_var rfl h0)) ok hp)) (gr_ret (gv_ixQ (i := i) (o := .dat (amD (s.st.getD i []))) (gv_fld (o := .val (.ref lS)) (gv_val rfl) (fun H4 t => S0.same t _ _ hr1) cl.c cl.steps v_steps rfl) (gv_var rfl h0) rfl (fun H4 t => SqL.of (S0.same t _ _ hS)) (List.getElem?_eq_getElem (by omega)) (rS.get (List.getElem?_eq_getElem (by omega)) (map_getD hp []))))

theorem fld_newV {σ : L2.St} {H : Hp} {tv : TE} {R : V → Hp → Prop} {r dx : Addr} {fs : List (Str × V)} {f : Str} {D : Ends} (hv : Ge S0 tv σ H R) (e0 : σ[0]? = some (some (.ref r))) (hr : H r = some (.ins C dx fs)) (c : Cls K C) (n : NoAttr K C f) (l : fs.length < 1000)
    (k : ∀ y H1 H', S0.T H H1 → R y H1 → (SA fun x => x = r).T H1 H' → H' r = some (.ins C dx (putF f y fs)) → D.nx σ H') : sFld K (tVar 0) tv f D σ H := fld_new hv e0 hr c n l k
/-- l.append(v) -/
theorem app_stmt {σ : L2.St} {H : Hp} {td ta : TE} {l : Addr} {xs : List V} {R : V → Hp → Prop} {D : Ends} (hd : Gv S0 td σ H (.val (.ref l))) (hl : H l = some (.lst xs)) (hv : Ge S0 ta σ H R) (few : xs.length ≤ 1000)
    (k : ∀ v H1, S0.T H H1 → R v H1 → D.nx σ (upd H1 l (.lst (xs ++ [v])))) : tDrop (tBM K "list" rAppend td (tCons ta tNil)) D σ H :=
  hd H S0.r _ fun v' H1 a1 ev => by
    cases ev
    exact ⟨tyl (S0.same a1 _ _ hl), hv H1 a1 _ fun v H2 a2 r => ⟨l, xs, v, rfl, rfl, S0.same (a1.trans a2) _ _ hl, Nat.lt_of_le_of_lt few (by decide), k v H2 (a1.trans a2) r⟩⟩
theorem ge_lst0 {σ : L2.St} {H : Hp} : Ge S0 (tLst tNil) σ H fun v H' => ∃ p, v = .ref p ∧ H p = none ∧ H' p = some (.lst []) := fun H1 a Q k => ⟨Nat.zero_le _, fun p hp => k _ _ (.new a.j' hp) ⟨p, rfl, a.free hp, upd_same⟩⟩

theorem sc_Vault_init : FnScope ["self", "fields", "record"] ["self", "fields", "record"] (defScope s_Vault_init) := ⟨rfl, rfl, rfl, by decide +kernel, rfl, by decide +kernel, by decide +kernel⟩
theorem ok_Vault_init (T : Tx mg) (cl : VCl K C) (F : DfC K mg "Vault" "Vault.__init__" C s_Vault_init) (G_made_fields : Gd P w K mg base "made_fields" 9 sp_made_fields) (G_want_record : Gd P w K mg base "want_record" 5 sp_want_record) : Mc P w K mg base "Vault" C 10 (sp_Vault_init C) := mc_of (N := ["self", "fields", "record"]) F sc_Vault_init (fun _ _ _ _ _ _ us hl => match us, hl with | [_, _, _], _ => rfl) (fun vs H Q E h => by
  obtain ⟨r, dx, v1, v2, fs, line, rfl, _⟩ := h
  rfl) fun f cdv A outer s0 H vs Q E hr hsp => by
  obtain ⟨r, dx, v1, v2, fs, line, rfl, h0, rv1, rv2, okf, okr, k⟩ := hsp
  refine ⟨_, (pss_cons (ps_fld (pv 0) (pe_gd G_made_fields hr (pa_cons (pv 1) pa_nil)) rfl)
    (pss_cons (ps_expr (pe_gd G_want_record hr (pa_cons (pe_fld (pv 0) rfl) (pa_cons (pv 2) pa_nil))))
    (pss_cons (ps_fld (pv 0) (pv 2) rfl)
    (pss_cons (ps_fld (pv 0) (pe_lst pa_nil) rfl)
    (pss_one (ps_fld (pv 0) (pe_lst pa_nil) rfl)))))), ?_⟩
  have j0 : (SA fun x => x = r).J H := fun x m => ⟨_, (show x = r from m) ▸ h0, rfl⟩
  have up : ∀ {H1 H2 : Hp}, (SA fun x => x = r).J H1 → S0.T H1 H2 → (SA fun x => x = r).T H1 H2 := fun j a => .of_same j (S0.same a)
  refine fld_new (gv_call fs (ga_one (gv_vd (i := 1) rfl rv1)) okf).ge rfl h0 cl.c cl.kinds (by show 0 < 1000; decide) fun vF H4 H5 a4 rF b4 at5 => ?_
  have rF : Rep H4 vF (fieldsD fs) := rF
  have rF := rF.mono b4.tups
  have at5 : H5 r = some (.ins C dx [(("kinds" : Str), vF)]) := at5
  have t5 := (up j0 a4).trans b4
  dsimp only
  refine gn_drop (S := S0) (gv_call (ι := List Kd × List Int) (fs, line) (ga_two (gv_fldD (gv_val (σ := [some (.ref r), some v1, some v2]) (i := 0) rfl) (fun H6 t => S0.same t _ _ at5) cl.c cl.kinds rfl rF) (gv_vd (i := 2) rfl (rv2.mono t5.tups))) ⟨okf, okr⟩) H5 S0.r _ fun H6 a6 => ?_
  have t6 := t5.trans (up t5.j' a6)
  dsimp only
  refine fld_new (Gv.ge (o := .dat (tupI line)) (gv_vd (i := 2) rfl (rv2.mono t6.tups))) rfl (S0.same a6 _ _ at5) cl.c cl.beginning (by show 1 < 1000; decide) fun vL H7 H8 a7 rL b7 at8 => ?_
  have rL : Rep H7 vL (tupI line) := rL
  have rL := rL.mono b7.tups
  have at8 : H8 r = some (.ins C dx [(("kinds" : Str), vF), (("beginning" : Str), vL)]) := at8
  have t8 := t6.trans ((up t6.j' a7).trans b7)
  have rF := ((rF.mono a6.tups).mono a7.tups).mono b7.tups
  dsimp only
  refine fld_new ge_lst0 rfl at8 cl.c cl.steps (by show 2 < 1000; decide) fun y H9 H10 a9 ⟨lS, ey, hS, eS⟩ b9 at10 => ?_
  subst ey
  have at10 : H10 r = some (.ins C dx [(("kinds" : Str), vF), (("beginning" : Str), vL), (("steps" : Str), V.ref lS)]) := at10
  have t10 := t8.trans ((up t8.j' a9).trans b9)
  have rF := (rF.mono a9.tups).mono b9.tups
  have rL := (rL.mono a9.tups).mono b9.tups
  have nS : lS ≠ r := fun e => by rw [e, at8] at hS; cases hS
  have eS := b9.k _ _ (fun m => nS m) eS
  dsimp only
  refine fld_new ge_lst0 rfl at10 cl.c cl.bases (by show 3 < 1000; decide) fun y H13 H14 a13 ⟨lB, ey, hB, eB⟩ b13 at14 => ?_
  subst ey
  have t14 := t10.trans ((up t10.j' a13).trans b13)
  have nB : lB ≠ r := fun e => by rw [e, at10] at hB; cases hB
  have nSB : lS ≠ lB := fun e => by rw [e, hB] at eS; cases eS
  have eB := b13.k _ _ (fun m => nB m) eB
  have eS := b13.k _ _ (fun m => nS m) (S0.same a13 _ _ eS)
  exact k H14 lS lB t14 (t8.free hS) (t10.free hB) ⟨dx, vF, vL, [], [], at14, (rF.mono a13.tups).mono b13.tups, (rL.mono a13.tups).mono b13.tups, eS, .nil, eB, rfl, nSB⟩

theorem sc_Vault_edit : FnScope ["self", "lot", "record"] ["self", "lot", "record"] (defScope s_Vault_edit) := ⟨rfl, rfl, rfl, by decide +kernel, rfl, by decide +kernel, by decide +kernel⟩
theorem ok_Vault_edit (T : Tx mg) (cl : VCl K C) (F : DfM K C "edit" "Vault.edit" s_Vault_edit) (G_want_lot : Gd P w K mg base "want_lot" 5 sp_want_lot) (G_want_record : Gd P w K mg base "want_record" 5 sp_want_record) (G_amounts_of : Gd P w K mg base "amounts_of" 1 sp_amounts_of) (G_steps_between : Gd P w K mg base "steps_between" 2 sp_steps_between) (M_Vault_edits : Md P w K mg base C "edits" 1 (sp_Vault_edits C)) (M_Vault_amounts_in : Md P w K mg base C "amounts_in" 3 (sp_Vault_amounts_in C)) : Md P w K mg base C "edit" 6 (sp_Vault_edit C) := md_of (N := ["self", "lot", "record"]) cl.c F sc_Vault_edit (fun _ _ _ _ _ _ us hl => match us, hl with | [_, _, _], _ => rfl) (fun vs H Q E h => by
  obtain ⟨r, lS, lB, s, v1, v2, lot, rec, rfl, _⟩ := h
  rfl) fun f cdv A outer s0 H vs Q E hr hsp => by
  obtain ⟨r, lS, lB, s, v1, v2, lot, rec, rfl, hR, ok, few, rv1, hp, rv2, orec, k⟩ := hsp
  obtain ⟨dx, vF, vL, xs, ys, hr1, rF, rL, hS, rS, hB, lyB, nSB⟩ := id hR
  refine ⟨_, (pss_cons (ps_expr (pe_gd G_want_lot hr (pa_cons (pe_md0 M_Vault_edits hr (pv 0)) (pa_cons (pv 1) pa_nil))))
    (pss_cons (ps_expr (pe_gd G_want_record hr (pa_cons (pe_fld (pv 0) rfl) (pa_cons (pv 2) pa_nil))))
    (pss_cons (ps_if (pt_cmpR op_eq (pe_md0 M_Vault_edits hr (pv 0)) (pe_gi T.MOST_EDITS_lotwork) (nomark _)) pss_never pss_nil)
    (pss_cons (ps_expr (pe_bm PySem.F.plainAttrs_list PySem.F.slot_list_append PySem.F.type_list_append mt_append (pe_fld (pv 0) rfl) (pa_cons (pe_gd G_steps_between hr (pa_cons (pe_fld (pv 0) rfl) (pa_cons (pe_md M_Vault_amounts_in hr (pv 0) (pa_cons (pv 1) pa_nil)) (pa_cons (pe_gd G_amounts_of hr (pa_cons (pe_fld (pv 0) rfl) (pa_cons (pv 2) pa_nil))) pa_nil)))) pa_nil)))
    (pss_cons (ps_expr (pe_bm PySem.F.plainAttrs_list PySem.F.slot_list_append PySem.F.type_list_append mt_append (pe_fld (pv 0) rfl) (pa_cons (pv 1) pa_nil)))
    (pss_one (ps_ret (pe_op op_sub (pe_md0 M_Vault_edits hr (pv 0)) pe_int)))))))), ?_⟩
  have ne := hR.ne
  have lx : xs.length = s.st.length := by rw [rS.length, List.length_map]
  refine gn_drop (S := S0) (gv_call (ι := Int × List Nat) ((s.st.length : Int), lot) (ga_two (gv_methV (args := fun _ _ => []) (pre := fun _ _ => True) (res := fun s _ => .val (.int (s.st.length : Int))) () (gv_val rfl) (fun H1 t => hR.same (S0.same t)) ga_nil ok trivial) (gv_vd (i := 1) rfl rv1)) ⟨Nat.le_trans hp.1 (by decide), fun x hx => ⟨by have := hp.2.1 x hx; have := ok.few; omega, by have := hp.2.1 x hx; dsimp only; omega⟩, hp.2.2⟩) H S0.r _ fun H1 a1 => ?_
  dsimp only
  refine gn_drop (S := S0) (gv_call (ι := List Kd × List Int) (s.fs, rec) (ga_two (gv_fldD (gv_val (σ := [some (.ref r), some v1, some v2]) (i := 0) rfl) (fun H4 t => S0.same (a1.trans t) _ _ hr1) cl.c cl.kinds v_kinds (rF.mono a1.tups)) (gv_vd (i := 2) rfl (rv2.mono a1.tups))) ⟨ok.fs, orec⟩) H1 S0.r _ fun H2 a2 => ?_
  have a2 := a1.trans a2
  dsimp only
  refine gn_skip (S := S0) ?_ H2 S0.r _ fun H3 a3 => ?_
  · refine GvT.cast (gt_test (gv_op (gv_methV (args := fun _ _ => []) (pre := fun _ _ => True) (res := fun s _ => .val (.int (s.st.length : Int))) () (gv_val rfl) (fun H1 t => hR.same (S0.same (a2.trans t))) ga_nil ok trivial) gv_int (rg_eq rfl))) (decide_eq_false fun e => ?_)
    have : (s.st.length : Int) = 400 := V.int.inj e
    omega
  have a3 := a2.trans a3
  dsimp only
  have hR3 := hR.same (S0.same a3)
  have j0 := hR.j
  have t3 : (SA fun x => x = lS ∨ x = lB).T H H3 := .of_same j0 (S0.same a3)
  have σ0 : L2.St := [some (.ref r), some v1, some v2]
  have gK : ∀ {H4 : Hp}, S0.T H3 H4 → Gv S0 (tFld K (tVar 0) "kinds") [some (.ref r), some v1, some v2] H4 (.dat (fieldsD s.fs)) := fun a => gv_fldD (gv_val (i := 0) rfl) (fun H5 t => S0.same ((a3.trans a).trans t) _ _ hr1) cl.c cl.kinds v_kinds (rF.mono (a3.trans a).tups)
  refine app_stmt (gv_fld (o := .val (.ref lS)) (gv_val (i := 0) rfl) (fun H4 t => S0.same (a3.trans t) _ _ hr1) cl.c cl.steps v_steps rfl) (S0.same a3 _ _ hS) (Gv.ge (o := .dat (amD (stps s.fs (vwalk s lot) (amOf s.fs rec)))) (gv_call (ι := List Kd × List (List Int) × List (List Int)) (s.fs, vwalk s lot, amOf s.fs rec) (ga_three (gK S0.r) (gv_methV (m := "amounts_in") (args := fun _ l => [.dat (natD l)]) (pre := fun s l => ∀ x ∈ l, x < s.st.length) (res := fun s l => .dat (amD (vwalk s l))) lot (gv_val rfl) (fun H5 t => hR.same (S0.same (a3.trans t))) (ga_one (gv_vd (i := 1) rfl (rv1.mono a3.tups))) ok hp.2.1) (gv_call (ι := List Kd × List Int) (s.fs, rec) (ga_two (gK S0.r) (gv_vd (i := 2) rfl (rv2.mono a3.tups))) ⟨ok.fs, orec⟩)) ⟨ok.fs, vwalk_ok ok hp.2.1, amOf_ok ok.fs orec⟩)) (by omega) fun vv H5 a5 rvv => ?_
  have rvv : Rep H5 vv (amD (stps s.fs (vwalk s lot) (amOf s.fs rec))) := rvv
  have a35 := a3.trans a5
  have s5 := S0.same a35
  have t5 : (SA fun x => x = lS ∨ x = lB).T H H5 := .of_same j0 s5
  have t6 : (SA fun x => x = lS ∨ x = lB).T H5 (upd H5 lS (.lst (xs ++ [vv]))) := SA.put t5.j' (.inl rfl) rfl
  have e6 : upd H5 lS (.lst (xs ++ [vv])) lS = some (.lst (xs ++ [vv])) := upd_same
  have eB : upd H5 lS (.lst (xs ++ [vv])) lB = some (.lst ys) := by rw [upd_ne nSB.symm]; exact s5 _ _ hB
  generalize upd H5 lS (.lst (xs ++ [vv])) = H6 at *
  have hr6 : H6 r = some (.ins C dx (vauF vF vL lS lB)) := t6.k _ _ (fun m => m.elim ne.1 ne.2.1) (s5 _ _ hr1)
  dsimp only
  refine app_stmt (gv_fld (o := .val (.ref lB)) (gv_val (i := 0) rfl) (fun H4 t => S0.same t _ _ hr6) cl.c cl.bases v_bases rfl) eB (Gv.ge (gv_val (i := 1) (v := v1) rfl)) (by omega) fun v9 H7 a7 ev => ?_
  have s7 := S0.same a7
  have t7 : (SA fun x => x = lS ∨ x = lB).T H6 H7 := .of_same t6.j' s7
  have t8 : (SA fun x => x = lS ∨ x = lB).T H7 (upd H7 lB (.lst (ys ++ [v9]))) := SA.put t7.j' (.inr rfl) rfl
  have e8 : upd H7 lB (.lst (ys ++ [v9])) lB = some (.lst (ys ++ [v9])) := upd_same
  have eS8 : upd H7 lB (.lst (ys ++ [v9])) lS = some (.lst (xs ++ [vv])) := by rw [upd_ne nSB]; exact s7 _ _ e6
  generalize upd H7 lB (.lst (ys ++ [v9])) = H8 at *
  have t68 := (t6.trans t7).trans t8
  have t08 := t5.trans t68
  have hR8 : VAt C H8 r lS lB { s with st := s.st ++ [stps s.fs (vwalk s lot) (amOf s.fs rec)] } := by
    refine ⟨dx, vF, vL, xs ++ [vv], ys ++ [v9], t08.k _ _ (fun m => m.elim ne.1 ne.2.1) hr1, rF.mono t08.tups, rL.mono t08.tups, eS8, ?_, e8, by rw [List.length_append, List.length_append, lyB]; rfl, nSB⟩
    rw [List.map_append]
    exact reps_append (rS.mono t08.tups) (.cons (rvv.mono t68.tups) .nil)
  have ok8 : VO { s with st := s.st ++ [stps s.fs (vwalk s lot) (amOf s.fs rec)] } := ⟨ok.fs, ok.line, fun a ha => (List.mem_append.mp ha).elim (ok.st a) fun h => by rw [List.mem_singleton.mp h]; exact stps_ok ok.fs (vwalk_ok ok hp.2.1) (amOf_ok ok.fs orec), by rw [List.length_append]; show s.st.length + 1 ≤ 100; omega⟩
  dsimp only
  refine gr_ret (S := S0) (o := .val (.int (s.st.length : Int))) (Gv.int_cast (gv_op (gv_methV (m := "edits") (args := fun _ _ => []) (pre := fun _ _ => True) (res := fun s _ => .val (.int (s.st.length : Int))) () (gv_val rfl) (fun H9 t => hR8.same (S0.same t)) ga_nil ok8 trivial) gv_int rg_I0) ?_) H8 S0.r _ fun v H9 a9 ev => ?_
  · rw [List.length_append]
    show ((s.st.length + 1 : Nat) : Int) - 1 = _
    omega
  · have ev : v = .int (s.st.length : Int) := ev
    subst ev
    exact k H9 (t08.trans (.of_same t08.j' (S0.same a9))) (hR8.same (S0.same a9))

end
end Ed

set_option maxHeartbeats 1000000
/-! EdD13: the law asks whether a replica is like its own dict. -/
namespace Ed
open PySem PySem.Spec PyProof.Rows L2 LamX NdefX
section
variable {P : Program} {w : World} {K : PySem.W.Frag} {mg : Str → Option Value} {base : Heap}
variable {C CV Pt Ph : Addr}
theorem RAt.src {C : Addr} {H : Hp} {r dS dH src : Addr} {s : RSt} (h : RAt C H r dS dH s) (t : SrcOk src H) : r ≠ src ∧ dS ≠ src ∧ dH ≠ src := by
  obtain ⟨dx, vF, vA, h1, _, _, ⟨kvs, h4, _⟩, ⟨kvs', h5, _⟩⟩ := h
  obtain ⟨b, m, h6, _⟩ := t
  exact ⟨fun e => (by rw [e, h6] at h1; cases h1), fun e => (by rw [e, h6] at h4; cases h4), fun e => (by rw [e, h6] at h5; cases h5)⟩
theorem OAt.src {H : Hp} {r dS dH src : Addr} {s : RSt} (h : OAt H r dS dH s) (t : SrcOk src H) : r ≠ src ∧ dS ≠ src ∧ dH ≠ src := by
  obtain ⟨vF, vA, h1, _, _, ⟨kvs, h4, _⟩, ⟨kvs', h5, _⟩⟩ := h
  obtain ⟨b, m, h6, _⟩ := t
  exact ⟨fun e => (by rw [e, h6] at h1; cases h1), fun e => (by rw [e, h6] at h4; cases h4), fun e => (by rw [e, h6] at h5; cases h5)⟩
/-- some of the things of a tuple, as a tuple -/
theorem ge_sub {α : Type} {S : Sys} {src : Addr} {σ : L2.St} {H : Hp} {ta tb : TE} {enc : α → PyData} {l : List α} (hS : HasSrc src S) (ha : Gv S ta σ H (.val (.ref src))) (hb : Gv S tb σ H (.dat (.tuple (l.map enc)))) (hl : l.length ≤ 100000) :
    Ge S (tCB (rTupOf K) (tCons (tCall sp_law_some [] E0 (tCons ta (tCons (tCB (rLstOf K) (tCons tb tNil)) tNil))) tNil)) σ H fun v H' => ∃ m : List α, m.Sublist l ∧ Rep H' v (.tuple (m.map enc)) :=
  Ge.imp (ge_tuple (C := fun ds => ∃ m : List α, m.Sublist l ∧ ds = m.map enc) (Ge.imp (ge_some hS ha (gl_listT (K := K) hb) (by rw [List.length_map, List.length_map]; exact hl)) fun v H1 a ⟨p, ys, xs, e, hp, h1, sb, hx⟩ => by
    obtain ⟨ps, s1, s2⟩ := isL_sub hx sb
    rw [List.map_map] at s1
    obtain ⟨m, s3, rfl⟩ := List.sublist_map_iff.mp s1
    exact ⟨p, ys, m.map enc, e, h1, by rw [List.map_map]; exact s2, m, s3, rfl⟩)) fun v H1 a ⟨ds, r, m, s1, e⟩ => ⟨m, s1, e ▸ r⟩
theorem lot_of_sub {l m : List Nat} (h : m.Sublist l) (o : Lot l) : Lot m := ⟨fun c hc => o.1 c (h.subset hc), o.2.sublist h⟩
theorem RO.lot {s : RSt} (o : RO s) : Lot (srt idD (keys s.log)) := by
  have hl : ∀ c ∈ keys s.log, c < 1200 := fun c hc => o.key hc
  refine ⟨fun c hc => hl c (srt_key hc), ?_⟩
  have nd : (srt idD (keys s.log)).Nodup := srt_perm.symm.nodup o.log.nd
  exact ((srt_sorted hl).and nd).imp fun h => Nat.lt_of_le_of_ne h.1 h.2
def sp_law_is_like (C : Addr) : Sp := fun vs H Q _ => ∃ (src r dS dH o cS cH : Addr) (s : RSt), vs = [.ref src, .ref r, .ref o] ∧ SrcOk src H ∧ RAt C H r dS dH s ∧ OAt H o cS cH s ∧ RO s ∧ ∀ H', (SS src).T H H' → Q (.bl true) H'
def sp_law_heard_right (C Pt : Addr) : Sp := fun vs H Q _ => ∃ (r dS dH o cS cH : Addr) (s : RSt) (v : V) (p : Log), vs = [.ref r, .ref o, v] ∧ RAt C H r dS dH s ∧ OAt H o cS cH s ∧ RO s ∧ Rep H v (packD p) ∧ PkOk s.fs p ∧ p.length ≤ 40 ∧ Like s p ∧ TabS H Pt qT ∧ cS ≠ dS ∧
  ∀ H', (SA fun x => x = dS ∨ x = Pt ∨ x = cS).T H H' → RAt C H' r dS dH { s with log := takeL s.log p } → OAt H' o cS cH { s with log := takeL s.log p } → TabS H' Pt qT → Q (.bl true) H'
theorem pl_rec {n : Nat} {r : List (Option Int)} : pl (n + 1) (recD r) = true := by
  simp only [recD, pl, List.all_eq_true, List.mem_map]
  rintro x ⟨o, _, rfl⟩
  cases o with
  | none => cases n <;> rfl
  | some i => exact pl_int
theorem pl_nat {n : Nat} {r : List Nat} : pl (n + 1) (natD r) = true := by
  simp only [natD, pl, List.all_eq_true, List.mem_map]
  rintro x ⟨o, _, rfl⟩
  exact pl_int

/-- if c: return ..; then more: c is false -/
theorem gr_skip3 {S : Sys} {tt : TT} {ts tw : TS} {σ : L2.St} {H : Hp} {o : Ob} (h : GvT S tt σ H false) (h2 : Gr S tw σ H o) : Gr S (tSeq (tIfS tt ts tNext) tw) σ H o := gr_ifR h (fun e => nomatch e) (fun _ => gn_next) fun _ => h2

theorem sc_law_is_like : FnScope ["_law_source", "_law_replica", "_law_own", "_law_ids", "_law_lot", "_law_here"] ["_law_source", "_law_replica", "_law_own"] (defScope s_law_is_like) := ⟨rfl, rfl, rfl, by decide +kernel, rfl, by decide +kernel, by decide +kernel⟩
theorem ok_law_is_like (T : Tx mg) (F : DfD K mg "_law_is_like" s_law_is_like) (G_law_v_ids : Gd P w K mg base "_law_v_ids" 1 sp_law_v_ids) (G_law_some : Gd P w K mg base "_law_some" 2 sp_law_some) (G_law_v_amounts_by_ids : Gd P w K mg base "_law_v_amounts_by_ids" 3 sp_law_v_amounts_by_ids) (G_law_v_record_at : Gd P w K mg base "_law_v_record_at" 2 sp_law_v_record_at) (G_law_v_barred_at : Gd P w K mg base "_law_v_barred_at" 3 sp_law_v_barred_at) (M_Replica_record : Md P w K mg base C "record" 9 (sp_Replica_record C)) (M_Replica_amounts : Md P w K mg base C "amounts" 8 (sp_Replica_amounts C)) (M_Replica_known : Md P w K mg base C "known" 1 (sp_Replica_known C)) (M_Replica_barred : Md P w K mg base C "barred" 10 (sp_Replica_barred C))  : Gd P w K mg base "_law_is_like" 11 (sp_law_is_like C) := gd_of (N := ["_law_source", "_law_replica", "_law_own", "_law_ids", "_law_lot", "_law_here"]) F sc_law_is_like (fun _ _ _ _ _ _ us hl => match us, hl with | [_, _, _], _ => rfl) (fun vs H Q E h => by
  obtain ⟨src, r, dS, dH, o, cS, cH, s, rfl, _⟩ := h
  rfl) fun f cdv A outer s0 H vs Q E hr hsp => by
  obtain ⟨src, r, dS, dH, o, cS, cH, s, rfl, j, hR, hO, ok, k⟩ := hsp
  refine ⟨_, (pss_cons (psn 3 sc_law_is_like.nd (pe_gd G_law_v_ids hr (pa_cons (pv 2) pa_nil)))
    (pss_cons (psn 4 sc_law_is_like.nd (pe_ct call_tuple_of T.tuple boot_tuple (pa_cons (pe_gd G_law_some hr (pa_cons (pv 0) (pa_cons (pe_ct call_list_of T.list boot_list (pa_cons (pv 3) pa_nil)) pa_nil))) pa_nil)))
    (pss_cons (psn 5 sc_law_is_like.nd (pe_gd G_law_v_amounts_by_ids hr (pa_cons (pv 2) (pa_cons (pv 4) pa_nil))))
    (pss_cons (ps_if (pt_pw (pw_or (pt_cmpR (op_neD hr.units) (pe_md0 M_Replica_known hr (pv 1)) (pv 3) (nomark _)) (pw_or (pt_cmpR (op_neD hr.units) (pe_md M_Replica_amounts hr (pv 1) (pa_cons (pv 4) pa_nil)) (pv 5) (nomark _)) (pw_or1 (pt_cmpR (op_neD hr.units) (pe_md M_Replica_record hr (pv 1) (pa_cons (pv 4) pa_nil)) (pe_gd G_law_v_record_at hr (pa_cons (pe_dget (hu_of hr) (pv 2) pe_str (fun _ _ => rfl)) (pa_cons (pv 5) pa_nil))) (nomark _)))))) (pss_one (ps_ret pe_bl)) pss_nil)
    (pss_one (ps_ret (pe_cmpR (op_eqD hr.units) (pe_md M_Replica_barred hr (pv 1) (pa_cons (pv 4) pa_nil)) (pe_gd G_law_v_barred_at hr (pa_cons (pe_dget (hu_of hr) (pv 2) pe_str (fun _ _ => rfl)) (pa_cons (pv 5) pa_nil))) (nomark _)))))))), ?_⟩
  have nr := hR.src j
  have no := hO.src j
  have few := ok.few
  refine gx_set (S := SS src) (Gv.ge (o := .dat (idsD (srt idD (keys s.log)))) (gv_callO (args := fun _ _ => []) (pre := fun _ _ => True) (res := fun s _ => .dat (idsD (srt idD (keys s.log)))) () (gv_val rfl) (fun H9 t => hO.to t no.1 no.2.1 no.2.2) ga_nil ok trivial)) H (.refl j) _ ?_
  rintro _ H1 a1 ⟨vi, ri, rfl⟩
  have ri : Rep H1 vi (idsD (srt idD (keys s.log))) := ri
  dsimp only
  refine gx_set (S := SS src) (ge_sub (K := K) (enc := idD) (l := srt idD (keys s.log)) hasSS (gv_val (i := 0) rfl) (gv_vd (i := 3) rfl ri) (by rw [srt_len, keys_len]; omega)) H1 a1.fin _ ?_
  rintro _ H2 a12 ⟨vl, ⟨lot, sub, rl⟩, rfl⟩
  have rl : Rep H2 vl (idsD lot) := rl
  have ri := ri.mono a12.tups
  have a2 := a1.trans a12
  have olot := lot_of_sub sub ok.lot
  have known : ∀ c ∈ lot, c ∈ keys s.log := fun c hc => srt_key (sub.subset hc)
  dsimp only
  refine gx_set (S := SS src) (Gv.ge (o := .dat (amD (walkA s lot))) (gv_callO (args := fun _ l => [.dat (idsD l)]) (pre := fun s l => ∀ c ∈ l, c ∈ keys s.log) (res := fun s l => .dat (amD (walkA s l))) lot (gv_val (i := 2) rfl) (fun H9 t => hO.to (a2.trans t) no.1 no.2.1 no.2.2) (ga_one (gv_vd (i := 4) rfl rl)) ok known)) H2 a2.fin _ ?_
  rintro _ H3 a23 ⟨vh, rh, rfl⟩
  have rh : Rep H3 vh (amD (walkA s lot)) := rh
  have a3 := a2.trans a23
  have ri := ri.mono a23.tups
  have rl := rl.mono a23.tups
  obtain ⟨vF, vL, hr1, rF, _⟩ := id hO
  have gF : Gv (SS src) (tDGet (tVar 2) (tC (.str "fields"))) [some (.ref src), some (.ref r), some (.ref o), some vi, some vl, some vh] H3 (.dat (fieldsD s.fs)) := gv_ownD (gv_val (i := 2) rfl) (fun H9 t => (a3.trans t).k _ _ no.1 hr1) o_fields (rF.mono a3.tups)
  have w := walk_ok ok known
  dsimp only
  refine gr_skip3 (S := SS src) (o := .val (.bl true)) ?_ ?_ H3 a3.fin _ fun v H4 a4 ev => ?_
  · refine (gt_or (b := false) (c := false) ?_ fun _ => gt_or (b := false) (c := false) ?_ fun _ => ?_).cast rfl
    · exact (GvT.cast (gt_test (gv_op (gv_meth (m := "known") (args := fun _ _ => []) (pre := fun _ _ => True) (res := fun s _ => .dat (idsD (srt idD (keys s.log)))) () (gv_val (i := 1) rfl) (fun H9 t => hR.to (a3.trans t) nr.1 nr.2.1 nr.2.2) ga_nil ok trivial) (gv_vd (i := 3) rfl ri) (rg_neD (c := true) pl_ids pl_ids ⟨fun _ => rfl, fun _ => rfl⟩))) rfl)
    · exact (GvT.cast (gt_test (gv_op (gv_meth (m := "amounts") (args := fun _ l => [.dat (idsD l)]) (pre := fun s l => Lot l ∧ ∀ c ∈ l, c ∈ keys s.log) (res := fun s l => .dat (amD (walkA s l))) lot (gv_val (i := 1) rfl) (fun H9 t => hR.to (a3.trans t) nr.1 nr.2.1 nr.2.2) (ga_one (gv_vd (i := 4) rfl rl)) ok ⟨olot, known⟩) (gv_vd (i := 5) rfl rh) (rg_neD (c := true) pl_am pl_am ⟨fun _ => rfl, fun _ => rfl⟩))) rfl)
    · exact (GvT.cast (gt_test (gv_op (gv_meth (m := "record") (args := fun _ l => [.dat (idsD l)]) (pre := fun s l => Lot l ∧ ∀ c ∈ l, c ∈ keys s.log) (res := fun s l => .dat (recD (recAt s.fs (walkA s l)))) lot (gv_val (i := 1) rfl) (fun H9 t => hR.to (a3.trans t) nr.1 nr.2.1 nr.2.2) (ga_one (gv_vd (i := 4) rfl rl)) ok ⟨olot, known⟩) (gv_call (ι := List Kd × List (List Int)) (s.fs, walkA s lot) (ga_two gF (gv_vd (i := 5) rfl rh)) ⟨ok.fs, w⟩) (rg_neD (c := true) pl_rec pl_rec ⟨fun _ => rfl, fun _ => rfl⟩))) rfl)
  · exact gr_ret (o := .val (.bl true)) (gv_op (gv_meth (m := "barred") (args := fun _ l => [.dat (idsD l)]) (pre := fun s l => Lot l ∧ ∀ c ∈ l, c ∈ keys s.log) (res := fun s l => .dat (natD (barI (recAt s.fs (walkA s l))))) lot (gv_val (i := 1) rfl) (fun H9 t => hR.to (a3.trans t) nr.1 nr.2.1 nr.2.2) (ga_one (gv_vd (i := 4) rfl rl)) ok ⟨olot, known⟩) (gv_call (ι := List Kd × List (List Int)) (s.fs, walkA s lot) (ga_two gF (gv_vd (i := 5) rfl rh)) ⟨ok.fs, w⟩) (rg_eqD (c := true) pl_nat pl_nat ⟨fun _ => rfl, fun _ => rfl⟩))
  · have ev : v = .bl true := ev
    subst ev
    exact k H4 (a3.trans a4)

theorem sc_law_heard_right : FnScope ["_law_replica", "_law_own", "_law_packet_in", "_law_due", "_law_pair"] ["_law_replica", "_law_own", "_law_packet_in"] (defScope s_law_heard_right) := ⟨rfl, rfl, rfl, by decide +kernel, rfl, by decide +kernel, by decide +kernel⟩
theorem ok_law_heard_right (T : Tx mg) (F : DfD K mg "_law_heard_right" s_law_heard_right) (G_law_v_taken : Gd P w K mg base "_law_v_taken" 1 sp_law_v_taken) (M_Replica_take : Md P w K mg base C "take" 9 (sp_Replica_take C Pt))  : Gd P w K mg base "_law_heard_right" 10 (sp_law_heard_right C Pt) := gd_of (N := ["_law_replica", "_law_own", "_law_packet_in", "_law_due", "_law_pair"]) F sc_law_heard_right (fun _ _ _ _ _ _ us hl => match us, hl with | [_, _, _], _ => rfl) (fun vs H Q E h => by
  obtain ⟨r, dS, dH, o, cS, cH, s, v, p, rfl, _⟩ := h
  rfl) fun f cdv A outer s0 H vs Q E hr hsp => by
  obtain ⟨r, dS, dH, o, cS, cH, s, v, p, rfl, hR, hO, ok, rv, pk, p40, lik, tab, nSS, k⟩ := hsp
  refine ⟨_, (pss_cons (psn 3 sc_law_heard_right.nd (pe_ct call_tuple_of T.tuple boot_tuple (pa_cons (pe_lc (own := [("_law_pair", 4)]) (g := (gName 4)) (tt := (tB (tDNotIn (tOp (rIxT K) (tVar 4) (tC _)) (tDGet (tVar 1) (tC _))))) (te := (tOp (rIxT K) (tVar 4) (tC _))) rfl sc_law_heard_right.nd (pi_tup (pv 2)) (blkOk_by (N := ["_law_replica", "_law_own", "_law_packet_in", "_law_due", "_law_pair"]) (sc := defScope s_law_heard_right) (by decide +kernel)) (fun _ _ _ _ _ => (pgn 4 sc_law_heard_right.nd)) (fun _ _ _ _ _ => (pts_one (pt_cmp (pc_dnotin (hu_of hr) (pe_ix ix_tup (pv 4) pe_int (fun _ _ => rfl)) (pe_dget (hu_of hr) (pv 1) pe_str (fun _ _ => rfl)))))) (fun _ _ _ _ _ => (pe_ix ix_tup (pv 4) pe_int (fun _ _ => rfl)))) pa_nil)))
    (pss_one (ps_ret (pe_and (pe_cmpR (op_eqD hr.units) (pe_md M_Replica_take hr (pv 0) (pa_cons (pv 2) pa_nil)) (pv 3) (nomark _)) (pe_one (pe_cmpR (op_eqD hr.units) (pe_gd G_law_v_taken hr (pa_cons (pv 1) (pa_cons (pv 2) pa_nil))) (pv 3) (nomark _))))))), ?_⟩
  obtain ⟨vF, vL, ho1, oF, oL, oS, oH⟩ := id hO
  have nR := hR.ne
  have neT := hR.neT tab
  have hcS : ∃ kvs, H cS = some (.dT kvs) := ⟨_, oS.choose_spec.1⟩
  have nTc : cS ≠ Pt := fun e => by
    obtain ⟨kvs, h⟩ := hcS
    obtain ⟨ps, h2, _⟩ := tab
    rw [e, h2] at h
    cases h
  have nrc : r ≠ cS := fun e => by
    obtain ⟨kvs, h⟩ := hcS
    obtain ⟨dx, _, _, h2, _⟩ := hR
    rw [← e, h2] at h
    cases h
  have nHc : dH ≠ cS := fun e => by
    obtain ⟨kvs, h⟩ := hcS
    obtain ⟨dx, _, _, _, _, _, _, kv2, h2, _⟩ := hR
    rw [← e, h2] at h
    cases h
  have noS : o ≠ dS := fun e => by
    obtain ⟨dx, _, _, _, _, _, ⟨kv2, h2, _⟩, _⟩ := hR
    rw [← e, ho1] at h2
    cases h2
  have noT : o ≠ Pt := fun e => by
    obtain ⟨ps, h2, _⟩ := tab
    rw [← e, ho1] at h2
    cases h2
  have ncH1 : cH ≠ dS := fun e => by
    obtain ⟨dx, _, _, _, _, _, ⟨kv2, h2, _⟩, _⟩ := hR
    obtain ⟨kv3, h3, _⟩ := oH
    rw [← e, h3] at h2
    cases h2
  have ncH2 : cH ≠ Pt := fun e => by
    obtain ⟨ps, h2, _⟩ := tab
    obtain ⟨kv3, h3, _⟩ := oH
    rw [← e, h3] at h2
    cases h2
  have jM : (SA fun x => x = dS ∨ x = Pt ∨ x = cS).J H := fun x m => by
    rcases m with rfl | rfl | rfl
    · exact hR.j _ (.inr (.inl rfl))
    · obtain ⟨ps, h, _⟩ := tab
      exact ⟨_, h, rfl⟩
    · obtain ⟨kvs, h⟩ := hcS
      exact ⟨_, h, rfl⟩
  refine gx_set (S := S0) (Gv.ge (o := .dat (idsD (due s p))) ((gv_tupleL (ds := (due s p).map idD) ((gl_lc1 (l := p) (keep := fun e => decide (e.1 ∉ keys s.log)) (f := fun e => Ob.dat (idD e.1)) (gi_tup (enc := fun e : Nat × Am => .tuple [idD e.1, amD e.2]) (gv_vd (i := 2) rfl rv)) (by omega) (fun _ => rfl) fun j z x H1 hz a hy => ?_).cast (by rw [due, List.map_map, List.map_map]; rfl))).cast rfl)) H S0.r _ ?_
  · have hy : Rep H1 x (.tuple [idD z.1, amD z.2]) := hy
    have g0 : Gv S0 (tOp (rIxT K) (tVar 4) (tC (.int 0))) [some (.ref r), some (.ref o), some v, none, some x] H1 (.dat (idD z.1)) := gv_ixT (i := 0) (ds := [idD z.1, amD z.2]) (gv_vd rfl hy) gv_int rfl rfl
    exact ⟨gt_B (gv_dninT g0 (gv_own (o := .val (.ref cS)) (gv_val rfl) (fun H5 t5 => S0.same (a.trans t5) _ _ ho1) o_steps rfl) (fun H5 t5 => oS.same (S0.same (a.trans t5))) ok.log (pk.id z (List.mem_of_getElem? hz))), fun _ => g0⟩
  rintro _ H1 a1 ⟨vd, rd, rfl⟩
  have rd : Rep H1 vd (idsD (due s p)) := rd
  have s1 := S0.same a1
  have hR1 := hR.same s1
  have hO1 := hO.same s1
  have tab1 : TabS H1 Pt qT := TabS.to (S := S0) tab a1 fun m => m
  dsimp only
  obtain ⟨dx, vF', vA', hr1, _⟩ := id hR1
  refine ⟨.ref r, rfl, r, dx, _, rfl, hr1, rfl, v, rfl, r, dS, dH, s, v, p, rfl, hR1, ok, rv.mono a1.tups, pk, p40, lik, tab1, fun v2 H2 t2 R2 tab2 rv2 => ⟨vd, rfl, ?_⟩⟩
  have rd2 := rd.mono t2.tups
  refine rg_eqD (K := K) (S := S0) (c := true) pl_ids pl_ids ⟨fun _ => rfl, fun _ => rfl⟩ H2 S0.r v2 vd rv2 rd2 _ fun v3 H3 a3 ev => ⟨true, ev, ?_⟩
  have t3 : (SA fun x => x = dS ∨ x = Pt).T H1 H3 := t2.trans (.of_same t2.j' (S0.same a3))
  have hO3 := hO1.to t3 (fun m => m.elim noS noT) (fun m => m.elim nSS nTc) (fun m => m.elim ncH1 ncH2)
  refine ⟨.ref o, rfl, v, rfl, o, cS, cH, s, v, p, rfl, hO3, ok, (rv.mono a1.tups).mono t3.tups, pk, p40, fun v4 H4 t4 O4 rv4 => ⟨vd, rfl, ?_⟩⟩
  have rd4 := (rd.mono t3.tups).mono t4.tups
  refine rg_eqD (K := K) (S := S0) (c := true) pl_ids pl_ids ⟨fun _ => rfl, fun _ => rfl⟩ H4 S0.r v4 vd rv4 rd4 _ fun v5 H5 a5 ev => ?_
  have ev : v5 = .bl true := ev
  subst ev
  have t01 := Sys.T.of_same jM s1
  have t13 := SA.mono t3 (fun x m => (m.elim .inl fun e => .inr (.inl e) : x = dS ∨ x = Pt ∨ x = cS)) t01.j'
  have t34 := SA.mono t4 (fun x (e : x = cS) => (.inr (.inr e) : x = dS ∨ x = Pt ∨ x = cS)) t13.j'
  have t45 := Sys.T.of_same t34.j' (S0.same a5)
  have s3 := S0.same a3
  have s5 := S0.same a5
  exact k H5 (((t01.trans t13).trans t34).trans t45) (((R2.same s3).to t4 nrc (fun e => nSS (show dS = cS from e).symm) nHc).same s5) (O4.same s5) (TabS.to (S := S0) (TabS.to (TabS.to (S := S0) tab2 a3 fun m => m) t4 fun e => nTc (show Pt = cS from e).symm) a5 fun m => m)

end
end Ed

set_option maxHeartbeats 1000000
/-! EdPI: the three replicas, in plain terms. -/
namespace Ed
open PySem PySem.Spec PyProof.Rows L2
/-! ### logs, put and taken -/
theorem keys_pt {log : Log} {c x : Nat} {a : Am} : x ∈ keys (pt log c a) ↔ x ∈ keys log ∨ x = c := by
  unfold keys
  rw [pt_keys]
  split
  · rename_i h
    exact ⟨.inl, fun q => q.elim id fun e => e ▸ h⟩
  · rw [List.mem_append, List.mem_singleton]
theorem takeL_mem {p : Log} : ∀ {log : Log} {e : Nat × Am}, e ∈ takeL log p → e ∈ log ∨ e ∈ p := by
  induction p with
  | nil => intro log e h; exact .inl h
  | cons x p ih =>
    intro log e h
    rcases ih (log := pt log x.1 x.2) h with h | h
    · rcases pt_mem h with h | h
      · exact .inl h
      · exact .inr (by rw [h]; exact List.mem_cons_self)
    · exact .inr (List.mem_cons_of_mem _ h)
theorem mem_keys {log : Log} {e : Nat × Am} (h : e ∈ log) : e.1 ∈ keys log := List.mem_map.mpr ⟨e, h, rfl⟩
theorem keys_mem {log : Log} {c : Nat} (h : c ∈ keys log) : ∃ a, (c, a) ∈ log := by
  obtain ⟨e, he, rfl⟩ := List.mem_map.mp h
  exact ⟨e.2, he⟩
/-- what a log says is what G says -/
theorem lkD_of {log G : Log} {c : Nat} {a : Am} (nd : (keys G).Nodup) (sub : ∀ e ∈ log, e ∈ G) (h : c ∈ keys log) (hg : (c, a) ∈ G) : lkD log c = a := by
  have h1 := sub _ (lk_mem (lkD_eq h))
  have h2 := lk_of_mem nd h1
  rw [lk_of_mem nd hg] at h2
  exact (Option.some.inj h2).symm
theorem pkt_mem {s : RSt} {ids : List Nat} {e : Nat × Am} (h : e ∈ pkt s ids) : e ∈ s.log := by
  obtain ⟨c, hc, rfl⟩ := List.mem_map.mp h
  exact lk_mem (lkD_eq (srt_key (List.mem_filter.mp hc).1))
theorem pkt_keys {s : RSt} {ids : List Nat} : (pkt s ids).map (·.1) = (srt idD (keys s.log)).filter fun c => decide (c ∉ ids) := by
  rw [pkt, List.map_map]
  exact List.map_id _
theorem pkt_ok {s : RSt} (o : RO s) {ids : List Nat} : PkOk s.fs (pkt s ids) := by
  refine ⟨fun e he => o.log.id e (pkt_mem he), fun e he => o.log.am e (pkt_mem he), ?_⟩
  rw [pkt_keys]
  exact o.lot.2.sublist List.filter_sublist
theorem PkOk.sub {fs : List Kd} {p q : Log} (o : PkOk fs p) (h : q.Sublist p) : PkOk fs q := ⟨fun e he => o.id e (h.subset he), fun e he => o.am e (h.subset he), o.up.sublist (h.map _)⟩
/-! ### all three -/
structure PI (fs : List Kd) (line : List Int) (st : Nat → RSt) (kp : List Log) (G : Log) (n : Nat) : Prop where
  fl : ∀ i, i < 3 → (st i).fs = fs ∧ (st i).line = line ∧ (st i).i = i
  ok : ∀ i, i < 3 → ROk (st i)
  g : LogOk fs G
  gn : G.length ≤ n
  n18 : n ≤ 18
  sub : ∀ i, i < 3 → ∀ e ∈ (st i).log, e ∈ G
  kps : ∀ p ∈ kp, PkOk fs p ∧ ∀ e ∈ p, e ∈ G
  kn : kp.length ≤ n
  own : ∀ i, i < 3 → ∀ k, k < 400 → 400 * i + k ∈ keys G → k < (st i).m
  m : ∀ i, i < 3 → (st i).m ≤ n
def upd1 (st : Nat → RSt) (i : Nat) (s : RSt) : Nat → RSt := fun j => if j = i then s else st j
theorem upd1_same {st : Nat → RSt} {i : Nat} {s : RSt} : upd1 st i s i = s := if_pos rfl
theorem upd1_ne {st : Nat → RSt} {i j : Nat} {s : RSt} (h : j ≠ i) : upd1 st i s j = st j := if_neg h
section
variable {fs : List Kd} {line : List Int} {st : Nat → RSt} {kp : List Log} {G : Log} {n i : Nat}
theorem sub_few {p : Log} (nd : (p.map (·.1)).Nodup) (h : ∀ e ∈ p, e ∈ G) : p.length ≤ G.length := by
  have := nodup_sub (l := p.map (·.1)) (m := G.map (·.1)) nd fun x hx => by
    obtain ⟨e, he, rfl⟩ := List.mem_map.mp hx
    exact List.mem_map.mpr ⟨e, h e he, rfl⟩
  rwa [List.length_map, List.length_map] at this
theorem PI.log (h : PI fs line st kp G n) (hi : i < 3) : (st i).log.length ≤ n := Nat.le_trans (sub_few (h.ok i hi).log.nd (h.sub i hi)) h.gn
theorem up_nodup {p : List Nat} (h : p.Pairwise (· < ·)) : p.Nodup := h.imp Nat.ne_of_lt
theorem PI.pk (h : PI fs line st kp G n) {p : Log} (hp : p ∈ kp) : p.length ≤ n := Nat.le_trans (sub_few (up_nodup (h.kps p hp).1.up) (h.kps p hp).2) h.gn
theorem PI.like (h : PI fs line st kp G n) (hi : i < 3) {p : Log} (hp : ∀ e ∈ p, e ∈ G) : Like (st i) p := fun e he =>
  ⟨fun hk => lkD_of h.g.nd (h.sub i hi) hk (hp e he), fun hk q => hk (by
    have ei := (h.fl i hi).2.2
    have h1 := h.own i hi (e.1 % 400) (Nat.mod_lt _ (by decide)) (by
      have : 400 * i + e.1 % 400 = e.1 := by omega
      rw [this]
      exact mem_keys (hp e he))
    have h2 := ((h.ok i hi).own (e.1 % 400) (Nat.mod_lt _ (by decide))).mpr h1
    have : 400 * (st i).i + e.1 % 400 = e.1 := by omega
    rwa [this] at h2)⟩
theorem PI.step (h : PI fs line st kp G n) (h18 : n < 18) : PI fs line st kp G (n + 1) :=
  { h with gn := Nat.le_succ_of_le h.gn, n18 := h18, kn := Nat.le_succ_of_le h.kn, m := fun i hi => Nat.le_succ_of_le (h.m i hi) }
theorem few3 {hs : Hds} (h1 : ∀ e ∈ hs, e.1 = "main" ∨ e.1 = "side") (h2 : (hs.map (·.1)).Nodup) : hs.length ≤ 2 := by
  have := nodup_sub (l := hs.map (·.1)) (m := (["main", "side"] : List Str)) h2 fun x hx => by
    obtain ⟨e, he, rfl⟩ := List.mem_map.mp hx
    rcases h1 e he with q | q <;> simp [q]
  rwa [List.length_map] at this
theorem ROk.few2 {s : RSt} (o : ROk s) : s.hs.length ≤ 2 := few3 (fun e he => (o.hs e he).1) o.hn
/-- an edit -/
theorem ed_log {s : RSt} (o : ROk s) (lot : List Nat) (rec : List Int) : (edited s lot rec).log = s.log ++ [(nxt s, stps s.fs (walkA s lot) (amOf s.fs rec))] := by
  refine pt_new ?_
  cases q : lk s.log (nxt s) with
  | none => rfl
  | some x =>
    have h1 := mem_keys (lk_mem q)
    have h2 := (o.own s.m (by have := o.m; omega)).mp h1
    omega
theorem PI.edit (h : PI fs line st kp G n) (h18 : n < 18) (hi : i < 3) {lot : List Nat} {rec : List Int} (hl : ∀ c ∈ lot, c ∈ keys (st i).log) (hr : OkR fs rec) : ∃ G', PI fs line (upd1 st i (edited (st i) lot rec)) kp G' (n + 1) := by
  have o := h.ok i hi
  obtain ⟨f1, f2, f3⟩ := h.fl i hi
  have e1 := ed_log o lot rec
  have nx := o.nxt
  have hm := h.m i hi
  have en : nxt (st i) = 400 * i + (st i).m := by rw [nxt, f3]
  have okA : OkA fs (stps (st i).fs (walkA (st i) lot) (amOf (st i).fs rec)) := by
    have := stps_ok o.fs (walk_ok o.toRO hl) (amOf_ok o.fs (f1.symm ▸ hr))
    rw [← f1]
    exact this
  have fr : nxt (st i) ∉ keys G := fun q => by
    have := h.own i hi (st i).m (by omega) (by rw [← en]; exact q)
    omega
  generalize stps (st i).fs (walkA (st i) lot) (amOf (st i).fs rec) = am at *
  have ndG : (keys (G ++ [(nxt (st i), am)])).Nodup := by
    rw [keys, List.map_append, List.nodup_append]
    exact ⟨h.g.nd, by simp, fun x hx y hy e => fr (by rw [List.map_cons, List.map_nil, List.mem_singleton] at hy; have q : x = nxt (st i) := e.trans hy; exact q ▸ hx)⟩
  have kG : ∀ x, x ∈ keys (G ++ [(nxt (st i), am)]) → x ∈ keys G ∨ x = nxt (st i) := fun x hx => by
    rw [keys, List.map_append, List.mem_append, List.map_cons, List.map_nil, List.mem_singleton] at hx
    exact hx
  have sb : ∀ e ∈ (edited (st i) lot rec).log, e ∈ G ++ [(nxt (st i), am)] := fun e he => by
    rw [e1, List.mem_append, List.mem_singleton] at he
    rw [List.mem_append, List.mem_singleton]
    exact he.imp (h.sub i hi e) id
  have okG : LogOk fs (G ++ [(nxt (st i), am)]) := by
    refine ⟨fun e he => ?_, fun e he => ?_, ndG⟩
    · rcases List.mem_append.mp he with he | he
      · exact h.g.id e he
      · rw [List.mem_singleton.mp he]; exact nx.1
    · rcases List.mem_append.mp he with he | he
      · exact h.g.am e he
      · rw [List.mem_singleton.mp he]; exact okA
  have kE : ∀ x, x ∈ keys (edited (st i) lot rec).log ↔ x ∈ keys (st i).log ∨ x = nxt (st i) := fun x => keys_pt
  refine ⟨G ++ [(nxt (st i), am)], ?_⟩
  have old : ∀ j, j < 3 → j ≠ i → upd1 st i (edited (st i) lot rec) j = st j := fun j _ q => upd1_ne q
  refine ⟨fun j hj => ?_, fun j hj => ?_, okG, ?_, h18, fun j hj e he => ?_, fun p hp => ⟨(h.kps p hp).1, fun e he => List.mem_append_left _ ((h.kps p hp).2 e he)⟩, Nat.le_succ_of_le h.kn, fun j hj k hk hx => ?_, fun j hj => ?_⟩
  · by_cases q : j = i
    · subst q; rw [upd1_same]; exact ⟨f1, f2, f3⟩
    · rw [old j hj q]; exact h.fl j hj
  · by_cases q : j = i
    · subst q
      rw [upd1_same]
      have lg : LogOk (st j).fs (edited (st j) lot rec).log := f1.symm ▸ ⟨fun e he => okG.id e (sb e he), fun e he => okG.am e (sb e he), pt_nodup o.log.nd⟩
      refine ⟨⟨o.i, o.fs, o.line, lg, ?_⟩, fun k hk => ?_, ?_, fun e he => ⟨(o.hs e he).1, (o.hs e he).2.1, fun c hc => (kE c).mpr (.inl ((o.hs e he).2.2 c hc))⟩, o.hn⟩
      · have := h.log hj
        have := h.n18
        rw [e1, List.length_append]
        show _ + 1 ≤ 60
        omega
      · show 400 * (st j).i + k ∈ keys (edited (st j) lot rec).log ↔ k < (st j).m + 1
        rw [kE, f3, en]
        have := o.own k hk
        rw [f3] at this
        have h3 : 400 * j + k ∈ keys (st j).log ↔ k < (st j).m := this
        rw [h3]
        omega
      · show (st j).m + 1 ≤ 100
        have := h.n18
        omega
    · rw [old j hj q]; exact h.ok j hj
  · rw [List.length_append]
    exact Nat.succ_le_succ h.gn
  · by_cases q : j = i
    · subst q; rw [upd1_same] at he; exact sb e he
    · rw [old j hj q] at he
      exact List.mem_append_left _ (h.sub j hj e he)
  · by_cases q : j = i
    · subst q
      rw [upd1_same]
      show k < (st j).m + 1
      rcases kG _ hx with hx | hx
      · exact Nat.lt_succ_of_lt (h.own j hj k hk hx)
      · omega
    · rw [old j hj q]
      rcases kG _ hx with hx | hx
      · exact h.own j hj k hk hx
      · omega
  · by_cases q : j = i
    · subst q; rw [upd1_same]; exact Nat.succ_le_succ hm
    · rw [old j hj q]; exact Nat.le_succ_of_le (h.m j hj)
/-- a packet is kept -/
theorem PI.keep (h : PI fs line st kp G n) (h18 : n < 18) (hi : i < 3) {ids : List Nat} {p : Log} (hp : p.Sublist (pkt (st i) ids)) : PI fs line st (kp ++ [p]) G (n + 1) := by
  have := h.step h18
  refine { this with kps := fun q hq => ?_, kn := by rw [List.length_append]; exact Nat.succ_le_succ h.kn }
  rcases List.mem_append.mp hq with hq | hq
  · exact h.kps q hq
  · rw [List.mem_singleton.mp hq]
    exact ⟨((h.fl i hi).1 ▸ pkt_ok (h.ok i hi).toRO).sub hp, fun e he => h.sub i hi e (pkt_mem (hp.subset he))⟩
/-- what is in order stays so when a packet is taken -/
theorem PI.take (h : PI fs line st kp G n) (hi : i < 3) {p : Log} (hp : PkOk fs p) (hg : ∀ e ∈ p, e ∈ G) : PI fs line (upd1 st i { st i with log := takeL (st i).log p }) kp G n := by
  have o := h.ok i hi
  obtain ⟨f1, f2, f3⟩ := h.fl i hi
  have sb : ∀ e ∈ takeL (st i).log p, e ∈ G := fun e he => (takeL_mem he).elim (h.sub i hi e) (hg e)
  have lo : LogOk (st i).fs (takeL (st i).log p) := takeL_ok o.log hp.id (f1.symm ▸ hp.am)
  have old : ∀ j, j ≠ i → upd1 st i { st i with log := takeL (st i).log p } j = st j := fun j q => upd1_ne q
  refine ⟨fun j hj => ?_, fun j hj => ?_, h.g, h.gn, h.n18, fun j hj e he => ?_, h.kps, h.kn, fun j hj => ?_, fun j hj => ?_⟩
  · by_cases q : j = i
    · subst q; rw [upd1_same]; exact ⟨f1, f2, f3⟩
    · rw [old j q]; exact h.fl j hj
  · by_cases q : j = i
    · subst q
      rw [upd1_same]
      refine ⟨⟨o.i, o.fs, o.line, lo, ?_⟩, fun k hk => ?_, o.m, fun e he => ⟨(o.hs e he).1, (o.hs e he).2.1, fun c hc => keys_take.mpr (.inl ((o.hs e he).2.2 c hc))⟩, o.hn⟩
      · have h1 := sub_few lo.nd sb
        have h2 := h.gn
        have h3 := h.n18
        exact Nat.le_trans h1 (by omega)
      · have h1 := o.own k hk
        refine ⟨fun hx => ?_, fun hk => keys_take.mpr (.inl (h1.mpr hk))⟩
        rcases keys_take.mp hx with hx | hx
        · exact h1.mp hx
        · obtain ⟨e, he, q⟩ := List.mem_map.mp hx
          refine h.own j hj k hk ?_
          have q : e.1 = 400 * (st j).i + k := q
          rw [f3] at q
          rw [← q]
          exact mem_keys (hg e he)
    · rw [old j q]; exact h.ok j hj
  · by_cases q : j = i
    · subst q; rw [upd1_same] at he; exact sb e he
    · rw [old j q] at he
      exact h.sub j hj e he
  · by_cases q : j = i
    · subst q; rw [upd1_same]; exact h.own j hj
    · rw [old j q]; exact h.own j hj
  · by_cases q : j = i
    · subst q; rw [upd1_same]; exact h.m j hj
    · rw [old j q]; exact h.m j hj
/-- other heads -/
theorem PI.heads (h : PI fs line st kp G n) (hi : i < 3) {hs : Hds} (h1 : ∀ e ∈ hs, (e.1 = "main" ∨ e.1 = "side") ∧ Lot e.2 ∧ ∀ c ∈ e.2, c ∈ keys (st i).log) (h2 : (hs.map (·.1)).Nodup) : PI fs line (upd1 st i { st i with hs := hs }) kp G n := by
  have o := h.ok i hi
  have old : ∀ j, j ≠ i → upd1 st i { st i with hs := hs } j = st j := fun j q => upd1_ne q
  refine ⟨fun j hj => ?_, fun j hj => ?_, h.g, h.gn, h.n18, fun j hj e he => ?_, h.kps, h.kn, fun j hj => ?_, fun j hj => ?_⟩
  · by_cases q : j = i
    · subst q; rw [upd1_same]; exact h.fl j hj
    · rw [old j q]; exact h.fl j hj
  · by_cases q : j = i
    · subst q; rw [upd1_same]; exact ⟨⟨o.i, o.fs, o.line, o.log, o.few⟩, o.own, o.m, h1, h2⟩
    · rw [old j q]; exact h.ok j hj
  · by_cases q : j = i
    · subst q; rw [upd1_same] at he; exact h.sub j hj e he
    · rw [old j q] at he
      exact h.sub j hj e he
  · by_cases q : j = i
    · subst q; rw [upd1_same]; exact h.own j hj
    · rw [old j q]; exact h.own j hj
  · by_cases q : j = i
    · subst q; rw [upd1_same]; exact h.m j hj
    · rw [old j q]; exact h.m j hj
end
end Ed

set_option maxHeartbeats 1000000
/-! EdWd: the heap with three replicas, three own dicts, the lists of them. -/
namespace Ed
open PySem PySem.Spec PyProof.Rows L2 LamX NdefX
abbrev At (L : List Addr) (k : Nat) : Addr := L.getD k 0
theorem at_mem {L : List Addr} {k : Nat} (h : k < L.length) : At L k ∈ L := getD_mem h 0
theorem at_ne {L : List Addr} {j k : Nat} (nd : L.Nodup) (hj : j < L.length) (hk : k < L.length) (n : j ≠ k) : At L j ≠ At L k := fun e => by
  have h1 : L.getD j 0 = L[j] := by rw [List.getD_eq_getElem?_getD, List.getElem?_eq_getElem hj]; rfl
  have h2 : L.getD k 0 = L[k] := by rw [List.getD_eq_getElem?_getD, List.getElem?_eq_getElem hk]; rfl
  have e : L.getD j 0 = L.getD k 0 := e
  rw [h1, h2] at e
  have pw := List.pairwise_iff_getElem.mp nd
  rcases Nat.lt_or_gt_of_ne n with q | q
  · exact pw j k hj hk q e
  · exact pw k j hk hj q e.symm
structure Wd (C Pt Ph : Addr) (L : List Addr) (st : Nat → RSt) (kp : List Log) (H : Hp) : Prop where
  len : L.length = 24
  nd : L.Nodup
  src : SrcOk (At L 0) H
  lr : H (At L 1) = some (.lst [.ref (At L 6), .ref (At L 9), .ref (At L 12)])
  lo : H (At L 2) = some (.lst [.ref (At L 15), .ref (At L 18), .ref (At L 21)])
  lk : ∃ xs, H (At L 3) = some (.lst xs) ∧ Reps H xs (kp.map packD)
  ept : At L 4 = Pt
  eph : At L 5 = Ph
  pt : TabS H Pt qT
  ph : TabS H Ph qH
  ra : ∀ i, i < 3 → RAt C H (At L (6 + 3 * i)) (At L (7 + 3 * i)) (At L (8 + 3 * i)) (st i)
  oa : ∀ i, i < 3 → OAt H (At L (15 + 3 * i)) (At L (16 + 3 * i)) (At L (17 + 3 * i)) (st i)
section
variable {C Pt Ph : Addr} {L : List Addr} {st st' : Nat → RSt} {kp kp' : List Log} {H H' : Hp}
theorem Wd.ne (h : Wd C Pt Ph L st kp H) {j k : Nat} (hj : j < 24) (hk : k < 24) (n : j ≠ k) : At L j ≠ At L k := at_ne h.nd (h.len.symm ▸ hj) (h.len.symm ▸ hk) n
theorem Wd.mem (h : Wd C Pt Ph L st kp H) {k : Nat} (hk : k < 24) : At L k ∈ L := at_mem (h.len.symm ▸ hk)
theorem tab_mut {P : Addr} {q : Str} (t : TabS H P q) : ∃ o, H P = some o ∧ mutO o = true := by
  obtain ⟨ps, h, _⟩ := t
  exact ⟨_, h, rfl⟩
theorem Wd.mut (h : Wd C Pt Ph L st kp H) : (SA fun x => x ∈ L).J H := fun x m => by
  obtain ⟨k, hk, e⟩ := List.mem_iff_getElem.mp m
  have hk : k < 24 := h.len ▸ hk
  have ex : x = At L k := by
    show x = L.getD k 0
    rw [List.getD_eq_getElem?_getD, List.getElem?_eq_getElem (h.len.symm ▸ hk)]
    exact e.symm
  rw [ex]
  by_cases q : k < 15
  · by_cases q6 : k < 6
    · have : k = 0 ∨ k = 1 ∨ k = 2 ∨ k = 3 ∨ k = 4 ∨ k = 5 := by omega
      rcases this with rfl | rfl | rfl | rfl | rfl | rfl
      · obtain ⟨b, m, h1, _⟩ := h.src
        exact ⟨_, h1, rfl⟩
      · exact ⟨_, h.lr, rfl⟩
      · exact ⟨_, h.lo, rfl⟩
      · obtain ⟨xs, h1, _⟩ := h.lk
        exact ⟨_, h1, rfl⟩
      · rw [h.ept]; exact tab_mut h.pt
      · rw [h.eph]; exact tab_mut h.ph
    · obtain ⟨i, hi, q⟩ : ∃ i, i < 3 ∧ (k = 6 + 3 * i ∨ k = 7 + 3 * i ∨ k = 8 + 3 * i) := ⟨(k - 6) / 3, by omega, by omega⟩
      have j := (h.ra i hi).j
      rcases q with q | q | q
      · rw [q]; exact j _ (.inl rfl)
      · rw [q]; exact j _ (.inr (.inl rfl))
      · rw [q]; exact j _ (.inr (.inr rfl))
  · obtain ⟨i, hi, q⟩ : ∃ i, i < 3 ∧ (k = 15 + 3 * i ∨ k = 16 + 3 * i ∨ k = 17 + 3 * i) := ⟨(k - 15) / 3, by omega, by omega⟩
    obtain ⟨vF, vA, h1, _, _, ⟨kvs, h4, _⟩, ⟨kvs', h5, _⟩⟩ := h.oa i hi
    rcases q with q | q | q
    · rw [q]; exact ⟨_, h1, rfl⟩
    · rw [q]; exact ⟨_, h4, rfl⟩
    · rw [q]; exact ⟨_, h5, rfl⟩
/-- some of the addresses -/
def In (L : List Addr) (ks : List Nat) : Addr → Prop := fun x => ∃ k ∈ ks, x = At L k
theorem Wd.out (h : Wd C Pt Ph L st kp H) {ks : List Nat} (hks : ∀ k ∈ ks, k < 24) {j : Nat} (hj : j < 24) (n : j ∉ ks) : ¬ In L ks (At L j) := fun ⟨k, hk, e⟩ => h.ne hj (hks k hk) (fun q => n (q ▸ hk)) e
theorem Wd.j (h : Wd C Pt Ph L st kp H) {ks : List Nat} (hks : ∀ k ∈ ks, k < 24) : (SA (In L ks)).J H := fun x ⟨k, hk, e⟩ => e ▸ h.mut _ (h.mem (hks k hk))
theorem Wd.all (h : Wd C Pt Ph L st kp H) {ks : List Nat} (hks : ∀ k ∈ ks, k < 24) (t : (SA (In L ks)).T H H') : (SA fun x => x ∈ L).T H H' := SA.mono t (fun x ⟨k, hk, e⟩ => e ▸ h.mem (hks k hk)) h.mut
/-- what changes is told, the rest stands -/
theorem Wd.upd (h : Wd C Pt Ph L st kp H) {ks : List Nat} (hks : ∀ k ∈ ks, k < 24) (t : (SA (In L ks)).T H H')
    (src : 0 ∉ ks ∨ SrcOk (At L 0) H') (lr : 1 ∉ ks) (lo : 2 ∉ ks) (lk : (3 ∉ ks ∧ kp' = kp) ∨ ∃ xs, H' (At L 3) = some (.lst xs) ∧ Reps H' xs (kp'.map packD)) (pt : 4 ∉ ks ∨ TabS H' Pt qT) (ph : 5 ∉ ks ∨ TabS H' Ph qH)
    (ra : ∀ i, i < 3 → (6 + 3 * i ∉ ks ∧ 7 + 3 * i ∉ ks ∧ 8 + 3 * i ∉ ks ∧ st' i = st i) ∨ RAt C H' (At L (6 + 3 * i)) (At L (7 + 3 * i)) (At L (8 + 3 * i)) (st' i))
    (oa : ∀ i, i < 3 → (15 + 3 * i ∉ ks ∧ 16 + 3 * i ∉ ks ∧ 17 + 3 * i ∉ ks ∧ st' i = st i) ∨ OAt H' (At L (15 + 3 * i)) (At L (16 + 3 * i)) (At L (17 + 3 * i)) (st' i)) : Wd C Pt Ph L st' kp' H' := by
  have o : ∀ {j}, j < 24 → j ∉ ks → ¬ In L ks (At L j) := fun hj n => h.out hks hj n
  refine ⟨h.len, h.nd, src.elim (fun n => ?_) id, t.k _ _ (o (by decide) lr) h.lr, t.k _ _ (o (by decide) lo) h.lo, lk.elim (fun ⟨n, e⟩ => ?_) id, h.ept, h.eph, pt.elim (fun n => ?_) id, ph.elim (fun n => ?_) id, fun i hi => (ra i hi).elim (fun ⟨n1, n2, n3, e⟩ => ?_) id, fun i hi => (oa i hi).elim (fun ⟨n1, n2, n3, e⟩ => ?_) id⟩
  · obtain ⟨b, m, h1, h2⟩ := h.src
    exact ⟨b, m, t.k _ _ (o (by decide) n) h1, h2⟩
  · subst e
    obtain ⟨xs, h1, h2⟩ := h.lk
    exact ⟨xs, t.k _ _ (o (by decide) n) h1, h2.mono t.tups⟩
  · exact TabS.to h.pt t (by have := o (j := 4) (by decide) n; rwa [h.ept] at this)
  · exact TabS.to h.ph t (by have := o (j := 5) (by decide) n; rwa [h.eph] at this)
  · rw [e]; exact (h.ra i hi).to t (o (by omega) n1) (o (by omega) n2) (o (by omega) n3)
  · rw [e]; exact (h.oa i hi).to t (o (by omega) n1) (o (by omega) n2) (o (by omega) n3)
theorem Wd.ofS (h : Wd C Pt Ph L st kp H) (t : (SS (At L 0)).T H H') : Wd C Pt Ph L st kp H' ∧ (SA fun x => x ∈ L).T H H' := by
  have hks : ∀ k ∈ [0], k < 24 := by decide
  have t1 : (SA (In L [0])).T H H' := SA.ofSS t ⟨0, by decide, rfl⟩ (h.j hks)
  exact ⟨h.upd hks t1 (.inr t.j') (by decide) (by decide) (.inl ⟨by decide, rfl⟩) (.inl (by decide)) (.inl (by decide))
    (fun i hi => .inl ⟨by simp, by simp, by simp, rfl⟩) (fun i hi => .inl ⟨by simp, by simp, by simp, rfl⟩), h.all hks t1⟩
theorem Wd.same (h : Wd C Pt Ph L st kp H) (t : Same H H') : Wd C Pt Ph L st kp H' :=
  ⟨h.len, h.nd, (by obtain ⟨b, m, h1, h2⟩ := h.src; exact ⟨b, m, t _ _ h1, h2⟩), t _ _ h.lr, t _ _ h.lo, (by obtain ⟨xs, h1, h2⟩ := h.lk; exact ⟨xs, t _ _ h1, h2.mono (Same.tups t)⟩), h.ept, h.eph,
    TabS.to (S := S0) h.pt (.of_same trivial t) (fun m => m), TabS.to (S := S0) h.ph (.of_same trivial t) (fun m => m), fun i hi => (h.ra i hi).same t, fun i hi => (h.oa i hi).same t⟩
theorem Wd.at3 (h : Wd C Pt Ph L st kp H) {i : Nat} (hi : i < 3) : ([.ref (At L 6), .ref (At L 9), .ref (At L 12)] : List V)[i]? = some (.ref (At L (6 + 3 * i))) ∧ ([.ref (At L 15), .ref (At L 18), .ref (At L 21)] : List V)[i]? = some (.ref (At L (15 + 3 * i))) := by
  have : i = 0 ∨ i = 1 ∨ i = 2 := by omega
  rcases this with rfl | rfl | rfl <;> exact ⟨rfl, rfl⟩
end
/-! a list of plain data: is it empty? -/
section
variable {S : Sys} {H H1 : Hp} {σ : L2.St} {te : TE} {K : PySem.W.Frag}
theorem dp_all {H : Hp} {n : Nat} : ∀ {xs : List V} {ds : List PyData}, Reps H xs ds → (∀ d ∈ ds, pl n d = true) → DpAll K H xs ds
  | _, _, .nil, _ => .nil
  | _, _, .cons r1 r2, q => .cons (Rep.dp r1 (pl_noL (q _ (List.mem_cons_self ..)))) (dp_all r2 fun d hd => q d (List.mem_cons_of_mem _ hd))
theorem gt_neL0 {a : Addr} {xs : List V} {ds : List PyData} (h : Gv S te σ H (.val (.ref a))) (ha : ∀ H1, S.T H H1 → H1 a = some (.lst xs)) (hx : ∀ H1, S.T H H1 → Reps H1 xs ds) (hp : pl 20 (.tuple ds) = true) : GvT S (tTest (tOp (rNeD K) te (tLst tNil))) σ H (!decide (xs = [])) := fun H1 t Q k =>
  h H1 t _ fun v H2 t2 hv => ⟨Nat.zero_le _, fun p hq => by
    cases hv
    have t3 : S.T H2 (upd H2 p (.lst [])) := .new t2.j' hq
    have tt := t.trans (t2.trans t3)
    have hr := hx _ tt
    have sh : SeqAt.shaped (.list ds) = true := (show SeqAt.shaped (.list ds) = SeqAt.shaped (.tuple ds) from rfl).trans (pl_shaped hp (by decide))
    refine ⟨.list ds, .list [], .lst (SqL.of (ha _ tt)) (dp_all hr (n := 19) (by simpa [pl] using hp)), .lst (SqL.of upd_same) .nil, sh, by rfl, ?_⟩
    have e : (!PyData.eqv (.list ds) (.list [])) = !decide (xs = []) := by
      cases hr with
      | nil => rfl
      | cons => simp [PyData.eqv, PyData.eqvAll]
    exact ⟨_, rfl, by rw [e]; exact k _ (t2.trans t3)⟩⟩
/-- one of the things of a list -/
theorem ge_oneV {src a : Addr} {xs : List V} {tl ta : TE} (hS : HasSrc src S) (ha : Gv S ta σ H (.val (.ref src))) (hl : Gv S tl σ H (.val (.ref a))) (na : a ≠ src) (h : ∀ H1, S.T H H1 → H1 a = some (.lst xs)) (h1 : 1 ≤ xs.length) (h2 : xs.length ≤ 100000) : Ge S (tCall sp_law_one [] E0 (tCons ta (tCons tl tNil))) σ H fun v H' => v ∈ xs := fun H1 t Q k =>
  ha H1 t _ fun v H2 t2 hv => hl H2 (t.trans t2) _ fun u H3 t3 hu => by
    cases hv
    cases hu
    have tt := (t.trans t2).trans t3
    exact ⟨src, a, xs, rfl, hS.j _ tt.j', na, h _ tt, h1, h2, fun v H' s m => k v H' ((t2.trans t3).trans (hS.t tt.j' s)) m⟩
end
end Ed

set_option maxHeartbeats 1000000
/-! EdD14: a turn. -/
namespace Ed
open PySem PySem.Spec PyProof.Rows L2 LamX NdefX
section
variable {P : Program} {w : World} {K : PySem.W.Frag} {mg : Str → Option Value} {base : Heap}
open LamX NdefX
variable {C CV Pt Ph : Addr}
theorem blkOk_nf {N : List Str} {sc sc' scope : Scope} {own : List (Str × Nat)} (h : BlkOk N sc' scope own) (nf : ∀ y ∈ scope.names, y.2 ≠ .free) : BlkOk N sc scope own := ⟨h.kind, h.uniq, h.ix, fun y hy e => absurd e (nf y hy), h.own⟩
/-- as it stands: if, and more behind -/
theorem raw_if {S : Sys} {tt : TT} {ts tu : TS} {σ : L2.St} {H : Hp} {b : Bool} {D : Ends} (h : GvT S tt σ H b) (j : S.J H) (h1 : b = true → ∀ H1, S.T H H1 → ts D σ H1) (h2 : b = false → ∀ H1, S.T H H1 → tu D σ H1) : tIfS tt ts tu D σ H := h H (.refl j) _ fun H1 a => by
  cases b with
  | true => exact h1 rfl H1 a
  | false => exact h2 rfl H1 a
theorem raw_ifR {S : Sys} {tt : TT} {ts tw : TS} {σ : L2.St} {H : Hp} {b : Bool} {D : Ends} (h : GvT S tt σ H b) (j : S.J H) (h1 : b = true → ∀ H1, S.T H H1 → ∀ N : L2.St → Hp → Prop, ts { D with nx := N } σ H1) (h2 : b = false → ∀ H1, S.T H H1 → tw D σ H1) : tSeq (tIfS tt ts tNext) tw D σ H :=
  raw_if h j (fun e H1 a => h1 e H1 a _) fun e H1 a => h2 e H1 a
theorem gv_lenDT {S : Sys} {σ : L2.St} {H : Hp} {te : TE} {d : Addr} {log : Log} (h : Gv S te σ H (.val (.ref d))) (hd : ∀ H1, S.T H H1 → StD H1 d log) : Gv S (tCB rLenT (tCons te tNil)) σ H (.val (.int (log.length : Int))) := fun H1 a Q k =>
  h H1 a _ fun v H2 a2 hv => by
    cases hv
    obtain ⟨kvs, e, q⟩ := hd H2 (a.trans a2)
    exact ⟨d, kvs, rfl, e, by rw [q.length]; exact k _ H2 a2 rfl⟩
/-- a reading method, its argument told by R -/
theorem ge_meth1 {S : Sys} {H : Hp} {σ : L2.St} {ta tb : TE} {C r dS dH : Addr} {s : RSt} {ι : Type} {args : RSt → ι → List Ob} {pre : RSt → ι → Prop} {res : RSt → ι → Ob} {m : Str} (h : Gv S ta σ H (.val (.ref r))) (hr : ∀ H1, S.T H H1 → RAt C H1 r dS dH s) (ha : Ge S tb σ H fun v H' => ∃ i, pre s i ∧ IsL H' [v] (args s i)) (ok : RO s) (hm : ∀ h vF vA dS m' dH, (insF h vF vA dS m' dH).lookup m = none := by exact fun _ _ _ _ _ _ => rfl) :
    Ge S (tMeth C m (spM C args pre res) [] E0 ta (tCons tb tNil)) σ H fun v H' => ∃ i, pre s i ∧ Is H' v (res s i) := fun H1 t Q k =>
  h H1 t _ fun x H2 t2 hx => by
    cases hx
    obtain ⟨dx, vF, vA, h1, _⟩ := hr H2 (t.trans t2)
    refine ⟨r, dx, _, rfl, h1, hm _ _ _ _ _ _, ha H2 (t.trans t2) _ fun v H3 t3 ⟨i, hp, hvs⟩ => ?_⟩
    exact ⟨r, dS, dH, s, i, [v], by rw [List.append_nil], hr H3 ((t.trans t2).trans t3), ok, hvs, hp, fun v H4 sm hv => k v H4 ((t2.trans t3).trans (.of_same t3.j' sm)) ⟨i, hp, hv⟩⟩
/-- not in a list just made -/
theorem gt_ninNew {S : Sys} {H : Hp} {σ : L2.St} {tx tl : TE} {ids : List Nat} {d : Nat} (h : Gv S tx σ H (.dat (idD d))) (hl : GvL S tl σ H ((ids.map idD).map Ob.dat)) (h1 : ∀ c ∈ ids, c < 1200) (h2 : d < 1200) : GvT S (tTest (tOp (rInLD K true) tx tl)) σ H (decide (d ∉ ids)) := fun H1 t Q k =>
  h H1 t _ fun x H2 t2 hx => hl H2 (t.trans t2) _ fun p xs H3 hp t3 he hxs => by
    refine rg_inLV (K := K) (S := S0) (neg := true) (c := decide (d ∈ ids)) (ids := ids) (fun H4 a => S0.same a _ _ he) (fun H4 a => hxs.reps.mono a.tups) (by rw [decide_eq_true_iff]) h1 h2 H3 S0.r x (.ref p) (hx.mono t3.tups) rfl _ fun v H4 a4 hv => ?_
    refine ⟨decide (d ∉ ids), ?_, k H4 ((t2.trans t3).trans (.of_same t3.j' (S0.same a4)))⟩
    have hv : v = .bl (!decide (d ∈ ids)) := hv
    rw [hv]
    by_cases q : d ∈ ids <;> simp [q]
theorem pl_pack {n : Nat} {p : Log} : pl (n + 5) (packD p) = true := by
  simp only [packD, pl, List.all_eq_true, List.mem_map]
  rintro x ⟨e, _, rfl⟩
  simp only [pl, List.all_eq_true]
  intro y hy
  simp only [List.mem_cons, List.not_mem_nil, or_false] at hy
  rcases hy with rfl | rfl
  · exact pl_id (n := n + 1)
  · exact pl_am (n := n + 1)
theorem pkt_again {s : RSt} {ids : List Nat} : pkt s ((srt idD (keys s.log)).filter fun c => decide (c ∉ (pkt s ids).map (·.1))) = pkt s ids := by
  rw [pkt_keys]
  unfold pkt
  congr 1
  refine List.filter_congr fun c hc => ?_
  rw [decide_eq_decide, List.mem_filter, decide_eq_true_iff, List.mem_filter, decide_eq_true_iff]
  by_cases q : c ∈ ids
  · simp [q, hc]
  · simp [q, hc]
theorem reps_app {H : Hp} : ∀ {xs ys : List V} {ds es : List PyData}, Reps H xs ds → Reps H ys es → Reps H (xs ++ ys) (ds ++ es)
  | _, _, _, _, .nil, r => r
  | _, _, _, _, .cons h t, r => .cons h (reps_app t r)
theorem ge_oneS {S : Sys} {src : Addr} {σ : L2.St} {H : Hp} {te ta : TE} {ws : List V} (hS : HasSrc src S) (ha : Gv S ta σ H (.val (.ref src))) (h : GvL S te σ H (ws.map Ob.val)) (h1 : 1 ≤ ws.length) (h2 : ws.length ≤ 100000) : Ge S (tCall sp_law_one [] E0 (tCons ta (tCons te tNil))) σ H fun v _ => v ∈ ws := fun H1 a Q k =>
  ha H1 a _ fun u H2 a2 hu => h H2 (a.trans a2) _ fun p xs H3 hp a3 he hx => by
    cases hu
    have ne : p ≠ src := fun e => S.live H2 src a2.j' hS.m (e ▸ hp)
    have ex := val_isL hx
    subst ex
    exact ⟨src, p, xs, rfl, hS.j _ a3.j', ne, he, h1, h2, fun v H' t hv => k v H' ((a2.trans a3).trans (hS.t a3.j' t)) hv⟩
theorem reps_mem {H : Hp} {α : Type} {enc : α → PyData} {v : V} : ∀ {xs : List V} {l : List α}, Reps H xs (l.map enc) → v ∈ xs → ∃ z ∈ l, Rep H v (enc z)
  | [], _, _, h => by cases h
  | x :: xs, l, r, h => by
    cases l with
    | nil => cases r
    | cons z l =>
      cases r with
      | cons r1 r2 =>
        rcases List.mem_cons.mp h with rfl | h
        · exact ⟨z, List.mem_cons_self .., r1⟩
        · obtain ⟨z', hz, r⟩ := reps_mem r2 h
          exact ⟨z', List.mem_cons_of_mem _ hz, r⟩
theorem pl_kept {kp : List Log} : pl 20 (.tuple (kp.map packD)) = true := by
  rw [pl, List.all_eq_true]
  intro x hx
  obtain ⟨p, _, rfl⟩ := List.mem_map.mp hx
  exact pl_pack (n := 14)
theorem OAt.heads {H H' : Hp} {o dS dH : Addr} {s : RSt} {hs : Hds} (h : OAt H o dS dH s) (t : (SA fun x => x = dH).T H H') (st : HdD H' dH hs) : OAt H' o dS dH { s with hs := hs } := by
  have n1 := h.ne.2
  have n2 := h.neH
  obtain ⟨vF, vA, h1, h2, h3, h4, h5⟩ := h
  exact ⟨vF, vA, t.k _ _ n2 h1, h2.mono t.tups, h3.mono t.tups, h4.to t n1, st⟩
theorem ge_ifE {S : Sys} {H : Hp} {σ : L2.St} {tt : TT} {ta tb : TE} {R : V → Hp → Prop} {B : Bool → Prop} (h : GeT S tt σ H B) (h1 : ∀ H1, S.T H H1 → Ge S ta σ H1 R) (h2 : ∀ H1, S.T H H1 → Ge S tb σ H1 R) : Ge S (tIf tt ta tb) σ H R := fun H1 a Q k => h H1 a _ fun b H2 a2 _ => by
  cases b with
  | true => exact h1 H2 (a.trans a2) H2 a2.fin _ fun v H3 a3 r => k v H3 (a2.trans a3) r
  | false => exact h2 H2 (a.trans a2) H2 a2.fin _ fun v H3 a3 r => k v H3 (a2.trans a3) r
theorem get_eq0 {S : Sys} {H : Hp} {σ : L2.St} {te : TE} {Pr : Nat → Prop} (h : Ge S te σ H fun v _ => ∃ r : Nat, Pr r ∧ v = .int (r : Int)) : GeT S (tTest (tOp rEq te (tC (.int 0)))) σ H fun _ => True := fun H1 a Q k => h H1 a _ fun v H2 a2 ⟨r, _, ev⟩ => by
  subst ev
  exact ⟨rfl, _, rfl, k _ H2 a2 trivial⟩
def sp_law_turn_right (C Pt Ph : Addr) : Sp := fun vs H Q _ => ∃ (L : List Addr) (st : Nat → RSt) (kp : List Log) (fs : List Kd) (line : List Int) (G : Log) (n : Nat), vs = [.ref (At L 0), .ref (At L 1), .ref (At L 2), .ref (At L 3)] ∧ Wd C Pt Ph L st kp H ∧ PI fs line st kp G n ∧ n < 18 ∧
  ∀ H' st' kp' G', (SA fun x => x ∈ L).T H H' → Wd C Pt Ph L st' kp' H' → PI fs line st' kp' G' (n + 1) → Q (.bl true) H'

theorem sc_law_turn_right : FnScope ["_law_source", "_law_replicas", "_law_owns", "_law_kept", "_law_at", "_law_way_of", "_law_replica", "_law_own", "_law_lot", "_law_line", "_law_told", "_law_part", "_law_word", "_law_heads_now", "_law_one_here", "_law_pair"] ["_law_source", "_law_replicas", "_law_owns", "_law_kept"] (defScope s_law_turn_right) := ⟨rfl, rfl, rfl, by decide +kernel, rfl, by decide +kernel, by decide +kernel⟩
theorem ok_law_turn_right (T : Tx mg) (F : DfD K mg "_law_turn_right" s_law_turn_right) (G_law_take : Gd P w K mg base "_law_take" 1 sp_law_take) (G_law_v_ids : Gd P w K mg base "_law_v_ids" 1 sp_law_v_ids) (G_law_some : Gd P w K mg base "_law_some" 2 sp_law_some) (G_law_v_some_record : Gd P w K mg base "_law_v_some_record" 2 sp_law_v_some_record) (G_law_v_edited_here : Gd P w K mg base "_law_v_edited_here" 4 sp_law_v_edited_here) (G_law_v_packet : Gd P w K mg base "_law_v_packet" 2 sp_law_v_packet) (G_law_one : Gd P w K mg base "_law_one" 2 sp_law_one) (G_law_heard_right : Gd P w K mg base "_law_heard_right" 10 (sp_law_heard_right C Pt)) (M_Replica_edit : Md P w K mg base C "edit" 8 (sp_Replica_edit C)) (M_Replica_packet : Md P w K mg base C "packet" 7 (sp_Replica_packet C)) (M_Replica_head : Md P w K mg base C "head" 1 (sp_Replica_head C)) (M_Replica_set_head : Md P w K mg base C "set_head" 8 (sp_Replica_set_head C))  : Gd P w K mg base "_law_turn_right" 11 (sp_law_turn_right C Pt Ph) := gd_of (N := ["_law_source", "_law_replicas", "_law_owns", "_law_kept", "_law_at", "_law_way_of", "_law_replica", "_law_own", "_law_lot", "_law_line", "_law_told", "_law_part", "_law_word", "_law_heads_now", "_law_one_here", "_law_pair"]) F sc_law_turn_right (fun _ _ _ _ _ _ us hl => match us, hl with | [_, _, _, _], _ => rfl) (fun vs H Q E h => by
  obtain ⟨L, st, kp, fs, line, G, n, rfl, _⟩ := h
  rfl) fun f cdv A outer s0 H vs Q E hr hsp => by
  obtain ⟨L, st, kp, fs, line, G, n, rfl, wd, pi, h18, k⟩ := hsp
  refine ⟨_, (pss_cons (ps_par (i := 4) (j := 5) rfl sc_law_turn_right.nd rfl rfl (by decide) (by rfl) (by rfl) (pa_cons (pe_gd G_law_take hr (pa_cons (pv 0) (pa_cons pe_int pa_nil))) (pa_cons (pe_gd G_law_take hr (pa_cons (pv 0) (pa_cons pe_int pa_nil))) pa_nil)) (by rfl))
    (pss_cons (ps_par (i := 6) (j := 7) rfl sc_law_turn_right.nd rfl rfl (by decide) (by rfl) (by rfl) (pa_cons (pe_ix ix_list (pv 1) (pv 4) (fun _ _ => rfl)) (pa_cons (pe_ix ix_list (pv 2) (pv 4) (fun _ _ => rfl)) pa_nil)) (by rfl))
    (pss_cons (ps_if (pt_pw (pw_and (pt_cmpR op_lt (pv 5) pe_int (nomark _)) (pw_and1 (pt_cmpR op_lt (pe_cb call_len_dT T.len boot_len (pa_cons (pe_dget (hu_of hr) (pv 7) pe_str (fun _ _ => rfl)) pa_nil)) pe_int (nomark _))))) (pss_cons (ps_par (i := 8) (j := 9) rfl sc_law_turn_right.nd rfl rfl (by decide) (by rfl) (by rfl) (pa_cons (pe_ct call_tuple_of T.tuple boot_tuple (pa_cons (pe_gd G_law_some hr (pa_cons (pv 0) (pa_cons (pe_ct call_list_of T.list boot_list (pa_cons (pe_gd G_law_v_ids hr (pa_cons (pv 7) pa_nil)) pa_nil)) pa_nil))) pa_nil)) (pa_cons (pe_gd G_law_v_some_record hr (pa_cons (pv 0) (pa_cons (pe_dget (hu_of hr) (pv 7) pe_str (fun _ _ => rfl)) pa_nil))) pa_nil)) (by rfl))
    (pss_one (ps_ret (pe_cmpR (op_eqD hr.units) (pe_md M_Replica_edit hr (pv 6) (pa_cons (pv 8) (pa_cons (pv 9) pa_nil))) (pe_gd G_law_v_edited_here hr (pa_cons (pv 7) (pa_cons (pv 8) (pa_cons (pv 9) pa_nil)))) (nomark _))))) pss_nil)
    (pss_cons (ps_if (pt_cmpR op_lt (pv 5) pe_int (nomark _)) (pss_cons (psn 10 sc_law_turn_right.nd (pe_md M_Replica_packet hr (pv 6) (pa_cons (pe_ct call_tuple_of T.tuple boot_tuple (pa_cons (pe_gd G_law_some hr (pa_cons (pv 0) (pa_cons (pe_ct call_list_of T.list boot_list (pa_cons (pe_gd G_law_v_ids hr (pa_cons (pv 7) pa_nil)) pa_nil)) pa_nil))) pa_nil)) pa_nil)))
    (pss_cons (psn 11 sc_law_turn_right.nd (pe_ifExp (pt_cmpR op_eq (pe_gd G_law_take hr (pa_cons (pv 0) (pa_cons pe_int pa_nil))) pe_int (nomark _)) (pe_ct call_tuple_of T.tuple boot_tuple (pa_cons (pe_gd G_law_some hr (pa_cons (pv 0) (pa_cons (pe_ct call_list_of T.list boot_list (pa_cons (pv 10) pa_nil)) pa_nil))) pa_nil)) (pv 10)))
    (pss_cons (ps_expr (pe_bm PySem.F.plainAttrs_list PySem.F.slot_list_append PySem.F.type_list_append mt_append (pv 3) (pa_cons (pv 11) pa_nil)))
    (pss_one (ps_ret (pe_cmpR (op_eqD hr.units) (pv 10) (pe_gd G_law_v_packet hr (pa_cons (pv 7) (pa_cons (pe_lc (own := [("_law_one_here", 14)]) (g := (gName 14)) (tt := (tTest (tOp (rInLD K true) (tVar 14) (tLc (iTup K (tVar 10)) (gName 15) tYes (tOp (rIxT K) (tVar 15) (tC _)) [15])))) (te := (tVar 14)) rfl sc_law_turn_right.nd (pi_tup (pe_gd G_law_v_ids hr (pa_cons (pv 7) pa_nil))) (blkOk_by (N := ["_law_source", "_law_replicas", "_law_owns", "_law_kept", "_law_at", "_law_way_of", "_law_replica", "_law_own", "_law_lot", "_law_line", "_law_told", "_law_part", "_law_word", "_law_heads_now", "_law_one_here", "_law_pair"]) (sc := defScope s_law_turn_right) (by decide +kernel)) (fun _ _ _ _ _ => (pgn 14 sc_law_turn_right.nd)) (fun _ _ _ _ _ => (pts_one (pt_cmpR (op_ninLD (hu65 hr)) (pv 14) (pe_lc (own := [("_law_pair", 15)]) (g := (gName 15)) (tt := tYes) (te := (tOp (rIxT K) (tVar 15) (tC _))) rfl sc_law_turn_right.nd (pi_tup (pv 10)) (blkOk_nf (blkOk_by (N := ["_law_source", "_law_replicas", "_law_owns", "_law_kept", "_law_at", "_law_way_of", "_law_replica", "_law_own", "_law_lot", "_law_line", "_law_told", "_law_part", "_law_word", "_law_heads_now", "_law_one_here", "_law_pair"]) (sc := defScope s_law_turn_right) (by decide +kernel)) (by decide)) (fun _ _ _ _ _ => (pgn 15 sc_law_turn_right.nd)) (fun _ _ _ _ _ => pts_nil) (fun _ _ _ _ _ => (pe_ix ix_tup (pv 15) pe_int (fun _ _ => rfl)))) (by rfl)))) (fun _ _ _ _ _ => (pv 14))) pa_nil))) (nomark _))))))) pss_nil)
    (pss_cons (ps_if (pt_pw (pw_and (pt_cmpR op_lt (pv 5) pe_int (nomark _)) (pw_and1 (pt_cmpR (op_neD hr.units) (pv 3) (pe_lst pa_nil) (nomark _))))) (pss_one (ps_ret (pe_gd G_law_heard_right hr (pa_cons (pv 6) (pa_cons (pv 7) (pa_cons (pe_gd G_law_one hr (pa_cons (pv 0) (pa_cons (pv 3) pa_nil))) pa_nil)))))) pss_nil)
    (pss_cons (ps_par (i := 12) (j := 8) rfl sc_law_turn_right.nd rfl rfl (by decide) (by rfl) (by rfl) (pa_cons (pe_gd G_law_one hr (pa_cons (pv 0) (pa_cons (pe_lst (pa_cons pe_str (pa_cons pe_str pa_nil))) pa_nil))) (pa_cons (pe_ct call_tuple_of T.tuple boot_tuple (pa_cons (pe_gd G_law_some hr (pa_cons (pv 0) (pa_cons (pe_ct call_list_of T.list boot_list (pa_cons (pe_gd G_law_v_ids hr (pa_cons (pv 7) pa_nil)) pa_nil)) pa_nil))) pa_nil)) pa_nil)) (by rfl))
    (pss_cons (psn 13 sc_law_turn_right.nd (pe_dget (hu_of hr) (pv 7) pe_str (fun _ _ => rfl)))
    (pss_cons (ps_dput (hu_of hr) (pv 13) (pv 12) (pv 8) rfl)
    (pss_one (ps_ret (pe_and (pe_cmpR op_isN (pe_md M_Replica_set_head hr (pv 6) (pa_cons (pv 12) (pa_cons (pv 8) pa_nil))) pe_non (nomark _)) (pe_one (pe_cmpR (op_eqD hr.units) (pe_md M_Replica_head hr (pv 6) (pa_cons (pv 12) pa_nil)) (pv 8) (nomark _)))))))))))))), ?_⟩
  refine gx_par (S := SS (At L 0)) (R := fun v w _ => ∃ a b : Nat, a < 3 ∧ b < 8 ∧ v = .int (a : Int) ∧ w = .int (b : Int)) (ga_e2 (R1 := fun v H' => ∃ a : Nat, a < 3 ∧ v = .int (a : Int)) (ge_take hasSS (top := 3) (ga_two (gv_val rfl) gv_int) (by decide) (by decide)) fun v H1 a1 ⟨a, ha, ev⟩ => Ge.imp (ge_take hasSS (top := 8) (ga_two (gv_val rfl) gv_int) (by decide) (by decide)) fun w H2 a2 ⟨b, hb, ew⟩ => ⟨a, b, ha, hb, ev, ew⟩) H (.refl wd.src) _ ?_
  rintro _ H1 a1 ⟨_, _, rfl, i, way, hi, hway, rfl, rfl⟩
  have wd1 := (wd.ofS a1).1
  have all1 := (wd.ofS a1).2
  dsimp only
  refine gx_par (S := S0) (R := fun v w _ => v = .ref (At L (6 + 3 * i)) ∧ w = .ref (At L (15 + 3 * i))) (ga_e2 (R1 := fun v _ => v = .ref (At L (6 + 3 * i))) (gv_ixQ (K := K) (o := .val _) (gv_val rfl) (gv_val rfl) rfl (fun H5 t => SqL.of (S0.same t _ _ wd1.lr)) (wd1.at3 hi).1 rfl).ge fun v H5 a5 ev => Ge.imp (gv_ixQ (K := K) (o := .val _) (gv_val rfl) (gv_val rfl) rfl (fun H6 t => SqL.of (S0.same (a5.trans t) _ _ wd1.lo)) (wd1.at3 hi).2 rfl).ge fun w H6 a6 ew => ⟨ev, ew⟩) H1 S0.r _ ?_
  rintro _ H2 a2 ⟨_, _, rfl, rfl, rfl⟩
  have s2 := S0.same a2
  have wd2 := wd1.same s2
  have all2 : (SA fun x => x ∈ L).T H H2 := all1.trans (.of_same all1.j' s2)
  clear wd1 all1 a1 a2 s2
  have ok := pi.ok i hi
  obtain ⟨f1, f2, f3⟩ := pi.fl i hi
  have hlog := pi.log hi
  have hm := pi.m i hi
  dsimp only
  generalize eS : st i = s at *
  generalize eR : At L (6 + 3 * i) = r at *
  generalize eO : At L (15 + 3 * i) = o at *
  have hR : ∀ {H5}, (SS (At L 0)).T H2 H5 → RAt C H5 r (At L (7 + 3 * i)) (At L (8 + 3 * i)) s := fun t => by
    have := (wd2.ofS t).1.ra i hi
    rwa [eS, eR] at this
  have hO : ∀ {H5}, (SS (At L 0)).T H2 H5 → OAt H5 o (At L (16 + 3 * i)) (At L (17 + 3 * i)) s := fun t => by
    have := (wd2.ofS t).1.oa i hi
    rwa [eS, eO] at this
  have lotE : ∀ {σ : L2.St} {H5 : Hp}, σ[0]? = some (some (.ref (At L 0))) → σ[7]? = some (some (.ref o)) → (SS (At L 0)).T H2 H5 →
      Ge (SS (At L 0)) (tCB (rTupOf K) (tCons (tCall sp_law_some [] E0 (tCons (tVar 0) (tCons (tCB (rLstOf K) (tCons (tCall sp_law_v_ids [] E0 (tCons (tVar 7) tNil)) tNil)) tNil))) tNil)) σ H5 fun v H' => ∃ lot : List Nat, (Lot lot ∧ ∀ c ∈ lot, c ∈ keys s.log) ∧ Rep H' v (idsD lot) := fun e0 e7 t =>
    Ge.imp (ge_sub (K := K) (enc := idD) (l := srt idD (keys s.log)) hasSS (gv_val e0) (gv_callO (args := fun _ _ => []) (pre := fun _ _ => True) (res := fun s _ => .dat (idsD (srt idD (keys s.log)))) () (gv_val e7) (fun H9 t9 => hO (t.trans t9)) ga_nil ok.toRO trivial) (by rw [srt_len, keys_len]; omega)) fun v H6 a ⟨lot, sub, rl⟩ => ⟨lot, ⟨lot_of_sub sub ok.toRO.lot, fun c hc => srt_key (sub.subset hc)⟩, rl⟩
  have stO : ∀ {σ : L2.St} {H5 : Hp}, σ[7]? = some (some (.ref o)) → (SS (At L 0)).T H2 H5 → Gv (SS (At L 0)) (tDGet (tVar 7) (tC (.str "steps"))) σ H5 (.val (.ref (At L (16 + 3 * i)))) := fun e7 t => by
    obtain ⟨vF, vL, h1, _⟩ := hO (.refl wd2.src)
    have no : o ≠ At L 0 := by
      rw [← eO]; exact wd2.ne (by omega) (by omega) (by omega)
    exact gv_own (gv_val e7) (fun H9 t9 => (t.trans t9).k _ _ no h1) o_steps rfl
  refine raw_ifR (S := SS (At L 0)) (gt_and (gt_test (gv_op (gv_val rfl) gv_int rg_I0)) fun _ => gt_test (gv_op (gv_lenDT (stO rfl (.refl wd2.src)) fun H9 t9 => (hO t9).choose_spec.choose_spec.2.2.2.1) gv_int rg_I0)) wd2.src (fun e H3 a3 N => ?_) fun e H3 a3 => ?_
  · have e2 := of_decide_eq_true (Bool.and_eq_true_iff.mp e).2
    have few : s.log.length < 14 := by omega
    obtain ⟨vF, vL, ho1, oF, _⟩ := hO (.refl wd2.src)
    have no : o ≠ At L 0 := by
      rw [← eO]; exact wd2.ne (by omega) (by omega) (by omega)
    dsimp only
    refine gx_par (S := SS (At L 0)) (R := fun v w H' => ∃ (lot : List Nat) (rec : List Int), (Lot lot ∧ ∀ c ∈ lot, c ∈ keys s.log) ∧ Rep H' v (idsD lot) ∧ Rep H' w (tupI rec) ∧ OkR s.fs rec) (ga_e2 (lotE rfl rfl a3) fun v H5 a5 ⟨lot, hl, rl⟩ =>
      ge_call (os := [.val (.ref (At L 0)), .dat (fieldsD s.fs)]) (ga_two (gv_val rfl) (gv_ownD (gv_val (i := 7) rfl) (fun H9 t => ((a3.trans a5).trans t).k _ _ no ho1) o_fields (oF.mono (a3.trans a5).tups))) fun H6 vs a6 hvs Q k => by
        obtain ⟨x, y, rfl, hx, hy⟩ := isL2 hvs
        cases hx
        exact ⟨At L 0, y, s.fs, rfl, a6.j', hy, ok.fs, fun v2 H7 rec t7 r7 o7 => k v2 H7 t7 ⟨lot, rec, hl, (rl.mono a6.tups).mono t7.tups, r7, o7⟩⟩) H3 a3.fin _ ?_
    rintro _ H4 a4 ⟨v1, v2, rfl, lot, rec, hl, r1, r2, okr⟩
    have a4 := a3.trans a4
    have wd4 := (wd2.ofS a4).1
    have all4 := all2.trans (wd2.ofS a4).2
    have hR4 := hR a4
    have hO4 := hO a4
    obtain ⟨dx, vF', vA', hr1, _⟩ := id hR4
    subst eS eR eO
    have ne : ∀ {j k : Nat}, j < 24 → k < 24 → j ≠ k → At L j ≠ At L k := fun a b c => wd.ne a b c
    refine ⟨.ref (At L (6 + 3 * i)), rfl, At L (6 + 3 * i), dx, _, rfl, hr1, rfl, v1, rfl, v2, rfl, At L (6 + 3 * i), At L (7 + 3 * i), At L (8 + 3 * i), st i, v1, v2, lot, rec, rfl, hR4, ok, by omega, by omega, r1, hl.1, hl.2, r2, okr, fun v5 H5 t5 R5 rv5 => ?_⟩
    have O5 := hO4.to t5 (fun m => m.elim (ne (by omega) (by omega) (by omega)) (ne (by omega) (by omega) (by omega))) (fun m => m.elim (ne (by omega) (by omega) (by omega)) (ne (by omega) (by omega) (by omega))) (fun m => m.elim (ne (by omega) (by omega) (by omega)) (ne (by omega) (by omega) (by omega)))
    refine ⟨.ref (At L (15 + 3 * i)), rfl, v1, rfl, v2, rfl, At L (15 + 3 * i), At L (16 + 3 * i), At L (17 + 3 * i), st i, v1, v2, lot, rec, rfl, O5, ok, by omega, by omega, r1.mono t5.tups, hl.2, r2.mono t5.tups, okr, fun v6 H6 t6 O6 rv6 => ?_⟩
    refine rg_eqD (K := K) (S := S0) (c := true) pl_id pl_id ⟨fun _ => rfl, fun _ => rfl⟩ H6 S0.r v5 v6 (rv5.mono t6.tups) rv6 _ fun v7 H7 a7 ev => ?_
    have ev : v7 = .bl true := ev
    subst ev
    have R6 := R5.to t6 (ne (by omega) (by omega) (by omega)) (ne (by omega) (by omega) (by omega)) (ne (by omega) (by omega) (by omega))
    obtain ⟨G', pi'⟩ := pi.edit h18 hi hl.2 (f1 ▸ okr)
    have s7 := S0.same a7
    have hks : ∀ k ∈ [6 + 3 * i, 7 + 3 * i, 16 + 3 * i], k < 24 := fun k hk => by simp at hk; omega
    have t5' : (SA (In L [6 + 3 * i, 7 + 3 * i, 16 + 3 * i])).T H4 H5 := SA.mono t5 (fun x m => m.elim (fun e => ⟨_, by simp, e⟩) fun e => ⟨_, by simp, e⟩) (wd4.j hks)
    have t6' : (SA (In L [6 + 3 * i, 7 + 3 * i, 16 + 3 * i])).T H5 H6 := SA.mono t6 (fun x m => ⟨16 + 3 * i, by simp, m⟩) t5'.j'
    have t7 := (t5'.trans t6').trans (.of_same t6'.j' s7)
    refine k H7 (upd1 st i (edited (st i) lot rec)) kp G' (all4.trans (wd4.all hks t7)) (wd4.upd hks t7 (.inl (by simp; omega)) (by simp; omega) (by simp; omega) (.inl ⟨by simp; omega, rfl⟩) (.inl (by simp; omega)) (.inl (by simp; omega)) (fun j hj => ?_) fun j hj => ?_) pi'
    · by_cases q : j = i
      · subst q; rw [upd1_same]; exact .inr (R6.same s7)
      · exact .inl ⟨by simp; omega, by simp; omega, by simp; omega, upd1_ne q⟩
    · by_cases q : j = i
      · subst q; rw [upd1_same]; exact .inr (O6.same s7)
      · exact .inl ⟨by simp; omega, by simp; omega, by simp; omega, upd1_ne q⟩
  · refine raw_ifR (S := SS (At L 0)) (gt_test (gv_op (gv_val rfl) gv_int rg_I0)) a3.j' (fun e H4 a4 N => ?_) fun e H4 a4 => ?_
    · have a4 := a3.trans a4
      dsimp only
      have few : (keys s.log).length ≤ 60 := by rw [keys_len]; exact ok.few
      refine gx_set (S := SS (At L 0)) (ge_meth1 (C := C) (ι := List Nat) (args := fun _ l => [.dat (idsD l)]) (pre := fun s l => Lot l) (res := fun s l => .dat (packD (pkt s l))) (m := "packet") (gv_val (i := 6) rfl) (fun H5 t => hR (a4.trans t)) (Ge.imp (lotE rfl rfl a4) fun v H5 a5 ⟨lot, hl, rl⟩ => ⟨lot, hl.1, .one rl⟩) ok.toRO) H4 a4.fin _ ?_
      rintro _ H5 a5 ⟨vt, ⟨ids, _, rt⟩, rfl⟩
      have rt : Rep H5 vt (packD (pkt s ids)) := rt
      have lenp : (pkt s ids).length ≤ 60 := by
        have : (pkt s ids).length ≤ (srt idD (keys s.log)).length := by rw [pkt, List.length_map]; exact List.length_filter_le _ _
        rw [srt_len] at this
        omega
      dsimp only
      refine gx_set (S := SS (At L 0)) (R := fun v H' => ∃ p : Log, p.Sublist (pkt s ids) ∧ Rep H' v (packD p)) (ge_ifE (get_eq0 (ge_take hasSS (top := 3) (ga_two (gv_val (i := 0) rfl) gv_int) (by decide) (by decide))) (fun H6 a6 => ge_sub (K := K) (enc := fun e : Nat × Am => .tuple [idD e.1, amD e.2]) (l := pkt s ids) hasSS (gv_val (i := 0) rfl) (gv_vd (i := 10) rfl (rt.mono a6.tups)) (by omega)) fun H6 a6 => Ge.imp (gv_vd (i := 10) rfl (rt.mono a6.tups)).ge fun v H7 a7 hv => ⟨pkt s ids, List.Sublist.refl _, hv⟩) H5 a5.fin _ ?_
      rintro _ H6 a6 ⟨vp, ⟨p, sub, rp⟩, rfl⟩
      have a6' := (a4.trans a5).trans a6
      have wd6 := (wd2.ofS a6').1
      have all6 := all2.trans (wd2.ofS a6').2
      obtain ⟨xs, hk1, hk2⟩ := wd6.lk
      have rt := rt.mono a6.tups
      dsimp only
      have lx : xs.length = kp.length := by rw [hk2.length, List.length_map]
      have := pi.kn
      refine ⟨.ref (At L 3), rfl, tyl hk1, vp, rfl, At L 3, xs, vp, rfl, rfl, hk1, small (by omega), ?_⟩
      have hks : ∀ k ∈ [3], k < 24 := by decide
      have t7 : (SA (In L [3])).T H6 (upd H6 (At L 3) (.lst (xs ++ [vp]))) := SA.put (wd6.j hks) ⟨3, by decide, rfl⟩ rfl
      have wd7 : Wd C Pt Ph L st (kp ++ [p]) (upd H6 (At L 3) (.lst (xs ++ [vp]))) := wd6.upd hks t7 (.inl (by decide)) (by decide) (by decide) (.inr ⟨xs ++ [vp], upd_same, by
        rw [List.map_append]
        exact reps_app (hk2.mono t7.tups) (.cons (rp.mono t7.tups) .nil)⟩) (.inl (by decide)) (.inl (by decide)) (fun j hj => .inl ⟨by simp; omega, by simp; omega, by simp; omega, rfl⟩) fun j hj => .inl ⟨by simp; omega, by simp; omega, by simp; omega, rfl⟩
      have all7 := all6.trans (wd6.all hks t7)
      have rt := rt.mono t7.tups
      generalize upd H6 (At L 3) (.lst (xs ++ [vp])) = H7 at *
      have hO7 := wd7.oa i hi
      rw [eS, eO] at hO7
      have pi' := pi.keep h18 hi (p := p) (ids := ids) (by rw [eS]; exact sub)
      have idl : ∀ c ∈ (srt idD (keys s.log)), c < 1200 := ok.toRO.lot.1
      dsimp only
      refine ⟨vt, rfl, ?_⟩
      refine ⟨.ref o, rfl, ?_⟩
      refine (gl_lc1 (l := srt idD (keys s.log)) (keep := fun c => decide (c ∉ (pkt s ids).map (·.1))) (f := fun c => Ob.dat (idD c)) (gi_tup (enc := idD) (gv_callO (args := fun _ _ => []) (pre := fun _ _ => True) (res := fun s _ => .dat (idsD (srt idD (keys s.log)))) () (gv_val (i := 7) rfl) (fun H9 t9 => hO7.same (S0.same t9)) ga_nil ok.toRO trivial)) (by rw [srt_len]; omega) (fun _ => rfl) fun j z x H8 hz a8 hy => ?_) H7 S0.r _ fun pl ys H8 hp8 a8 he8 hx8 => ?_
      · have hy : Rep H8 x (idD z) := hy
        refine ⟨gt_ninNew (gv_vd (i := 14) rfl hy) ((gl_lc1y (l := pkt s ids) (f := fun e => Ob.dat (idD e.1)) (gi_tup (enc := fun e : Nat × Am => .tuple [idD e.1, amD e.2]) (gv_vd (i := 10) rfl (rt.mono a8.tups))) (by omega) (fun _ => rfl) fun j2 z2 x2 H9 hz2 a9 hy2 => ?_).cast (by rw [List.map_map, List.map_map]; rfl)) ?_ (idl z (List.mem_of_getElem? hz)), fun _ => gv_vd (i := 14) rfl hy⟩
        · have hy2 : Rep H9 x2 (.tuple [idD z2.1, amD z2.2]) := hy2
          exact gv_ixT (i := 0) (ds := [idD z2.1, amD z2.2]) (gv_vd rfl hy2) gv_int rfl rfl
        · intro c hc
          rw [pkt_keys] at hc
          exact idl c (List.mem_filter.mp hc).1
      have s8 := S0.same a8
      refine ⟨o, At L (16 + 3 * i), At L (17 + 3 * i), pl, s, ys, _, rfl, hO7.same s8, ok.toRO, he8, IsL.reps (ds := List.map idD _) (by rw [List.map_map]; exact hx8), fun c hc => idl c (List.mem_filter.mp hc).1, fun v9 H9 s9 rv9 => ?_⟩
      rw [pkt_again] at rv9
      refine rg_eqD (K := K) (S := S0) (c := true) pl_pack pl_pack ⟨fun _ => rfl, fun _ => rfl⟩ H9 S0.r vt v9 ((rt.mono (Same.tups s8)).mono (Same.tups s9)) rv9 _ fun v10 H10 a10 ev => ?_
      have ev : v10 = .bl true := ev
      subst ev
      have s10 := (s8.trans s9).trans (S0.same a10)
      exact k H10 st (kp ++ [p]) G (all7.trans (.of_same all7.j' s10)) (wd7.same s10) pi'
    · have a4 := a3.trans a4
      have wd4 := (wd2.ofS a4).1
      have all4 := all2.trans (wd2.ofS a4).2
      obtain ⟨xs, hk1, hk2⟩ := wd4.lk
      have nk : At L 3 ≠ At L 0 := wd.ne (by decide) (by decide) (by decide)
      have lx : xs.length = kp.length := by rw [hk2.length, List.length_map]
      have := pi.kn
      refine raw_ifR (S := SS (At L 0)) (gt_and (gt_test (gv_op (gv_val rfl) gv_int rg_I0)) fun _ => gt_neL0 (K := K) (xs := xs) (ds := kp.map packD) (gv_val rfl) (fun H5 t => t.k _ _ nk hk1) (fun H5 t => hk2.mono t.tups) pl_kept) a4.j' (fun e H5 a5 N => ?_) fun e H5 a5 => ?_
      · have e2 := (Bool.and_eq_true_iff.mp e).2
        have hx : 1 ≤ xs.length := by
          cases xs with
          | nil => exact absurd e2 (by decide)
          | cons x l => exact Nat.succ_le_succ (Nat.zero_le _)
        dsimp only
        refine ⟨.ref r, rfl, .ref o, rfl, .ref (At L 0), rfl, .ref (At L 3), rfl, At L 0, At L 3, xs, rfl, a5.j', nk, a5.k _ _ nk hk1, hx, by omega, fun v H6 a6 hv => ?_⟩
        have a6 := a5.trans a6
        obtain ⟨p, hp, rv⟩ := reps_mem (hk2.mono a6.tups) hv
        have wd6 := (wd4.ofS a6).1
        have all6 := all4.trans (wd4.ofS a6).2
        have a06 := a4.trans a6
        have p40 := pi.pk hp
        have hn := pi.n18
        subst eS eR eO
        refine ⟨At L (6 + 3 * i), At L (7 + 3 * i), At L (8 + 3 * i), At L (15 + 3 * i), At L (16 + 3 * i), At L (17 + 3 * i), st i, v, p, rfl, hR a06, hO a06, ok.toRO, rv, f1 ▸ (pi.kps p hp).1, by omega, pi.like hi (pi.kps p hp).2, wd6.pt, wd.ne (by omega) (by omega) (by omega), fun H' T R' O' tab' => ?_⟩
        have hks : ∀ k ∈ [7 + 3 * i, 4, 16 + 3 * i], k < 24 := fun k hk => by simp at hk; omega
        have T' : (SA (In L [7 + 3 * i, 4, 16 + 3 * i])).T H6 H' := SA.mono T (fun x m => m.elim (fun e => ⟨_, by simp, e⟩) fun m => m.elim (fun e => ⟨4, by simp, e.trans wd.ept.symm⟩) fun e => ⟨16 + 3 * i, by simp, e⟩) (wd6.j hks)
        refine k H' (upd1 st i { st i with log := takeL (st i).log p }) kp G (all6.trans (wd6.all hks T')) (wd6.upd hks T' (.inl (by simp; omega)) (by simp; omega) (by simp; omega) (.inl ⟨by simp; omega, rfl⟩) (.inr tab') (.inl (by simp; omega)) (fun j hj => ?_) fun j hj => ?_) ((pi.take hi (pi.kps p hp).1 (pi.kps p hp).2).step h18)
        · by_cases q : j = i
          · subst q; rw [upd1_same]; exact .inr R'
          · exact .inl ⟨by simp; omega, by simp; omega, by simp; omega, upd1_ne q⟩
        · by_cases q : j = i
          · subst q; rw [upd1_same]; exact .inr O'
          · exact .inl ⟨by simp; omega, by simp; omega, by simp; omega, upd1_ne q⟩
      · have a5 := a4.trans a5
        refine gx_par (S := SS (At L 0)) (R := fun v w H' => ∃ (x : Str) (lot : List Nat), (x = "main" ∨ x = "side") ∧ v = .str x ∧ (Lot lot ∧ ∀ c ∈ lot, c ∈ keys s.log) ∧ Rep H' w (idsD lot)) (ga_e2 (R1 := fun v _ => v ∈ [V.str "main", V.str "side"]) (ge_oneS hasSS (gv_val rfl) (gl_lst (os := [.val (.str "main"), .val (.str "side")]) (ga_two gv_cv gv_cv) (by show 2 ≤ 100000; decide)) (by decide) (by show 2 ≤ 100000; decide)) fun v H6 a6 hv => Ge.imp (lotE rfl rfl (a5.trans a6)) fun w H7 a7 ⟨lot, hl, rl⟩ => ?_) H5 a5.fin _ ?_
        · rcases List.mem_cons.mp hv with rfl | hv
          · exact ⟨"main", lot, .inl rfl, rfl, hl, rl⟩
          · rw [List.mem_singleton] at hv
            subst hv
            exact ⟨"side", lot, .inr rfl, rfl, hl, rl⟩
        rintro _ H6 a6 ⟨_, vl, rfl, x, lot, hx, rfl, hl, rl⟩
        have a6 := a5.trans a6
        have wd6 := (wd2.ofS a6).1
        have all6 := all2.trans (wd2.ofS a6).2
        have hR6 := hR a6
        have hO6 := hO a6
        obtain ⟨vF, vL, ho1, _, _, _, dHd⟩ := id hO6
        dsimp only
        refine gx_set (S := S0) (Gv.ge (o := .val (.ref (At L (17 + 3 * i)))) (gv_own (gv_val (i := 7) rfl) (fun H9 t9 => S0.same t9 _ _ ho1) o_heads rfl)) H6 S0.r _ ?_
        rintro _ H7 a7 ⟨vh, hv, rfl⟩
        have hv : vh = .ref (At L (17 + 3 * i)) := hv
        subst hv
        have s7 := S0.same a7
        have wd7 := wd6.same s7
        have all7 := all6.trans (.of_same all6.j' s7)
        have hR7 := hR6.same s7
        have hO7 := hO6.same s7
        have rl := rl.mono a7.tups
        have hs2 := ok.few2
        dsimp only
        refine ⟨vl, rfl, .ref (At L (17 + 3 * i)), rfl, .str x, rfl, ?_⟩
        obtain ⟨H8, dp, ⟨kvs, e8⟩, st8⟩ := hdd_put (Q := fun H8 => (∃ kvs, H8 = upd H7 (At L (17 + 3 * i)) (.dK kvs)) ∧ HdD H8 (At L (17 + 3 * i)) (Ed.pt s.hs x lot)) (w := x) (dHd.same s7) (by omega) rl fun kvs st => ⟨⟨kvs, rfl⟩, st⟩
        refine ⟨At L (17 + 3 * i), H8, rfl, dp, ?_⟩
        have jd : (SA fun x => x = At L (17 + 3 * i)).J H7 := fun y m => by
          obtain ⟨kvs, h1, _⟩ := dHd.same s7
          exact ⟨_, (show y = At L (17 + 3 * i) from m) ▸ h1, rfl⟩
        have t8 : (SA fun x => x = At L (17 + 3 * i)).T H7 H8 := by rw [e8]; exact SA.put jd rfl rfl
        have O8 := hO7.heads t8 st8
        have rl8 := rl.mono t8.tups
        subst eS eR eO
        have ne : ∀ {j k : Nat}, j < 24 → k < 24 → j ≠ k → At L j ≠ At L k := fun a b c => wd.ne a b c
        have R8 := hR7.to t8 (ne (by omega) (by omega) (by omega)) (ne (by omega) (by omega) (by omega)) (ne (by omega) (by omega) (by omega))
        obtain ⟨dx, vF', vA', hr1, _⟩ := id R8
        have okx : okName x = true := by rcases hx with rfl | rfl <;> decide +kernel
        dsimp only
        refine ⟨.ref (At L (6 + 3 * i)), rfl, At L (6 + 3 * i), dx, _, rfl, hr1, rfl, .str x, rfl, vl, rfl, At L (6 + 3 * i), At L (7 + 3 * i), At L (8 + 3 * i), st i, x, vl, lot, rfl, R8, ok.toRO, by omega, okx, rl8, hl.1, hl.2, fun H9 t9 R9 => ⟨rfl, _, rfl, ite2 (fun _ => ?_) fun q => absurd (decide_eq_true rfl) q⟩⟩
        have O9 := O8.to t9 (ne (by omega) (by omega) (by omega)) (ne (by omega) (by omega) (by omega)) (ne (by omega) (by omega) (by omega))
        have ro' : RO { st i with hs := Ed.pt (st i).hs x lot } := ⟨ok.i, ok.fs, ok.line, ok.log, ok.few⟩
        refine gv_op (S := S0) (r := rEqD K) (o := .dat (idsD lot)) (p := .dat (idsD lot)) (q := .val (.bl true)) (gv_meth (m := "head") (args := fun _ i => [.val (.str i.1)]) (pre := fun s i => lk s.hs i.1 = some i.2) (res := fun s i => .dat (idsD i.2)) (x, lot) (gv_val (i := 6) rfl) (fun H10 t => R9.same (S0.same t)) (ga_one (gv_val (i := 12) rfl)) ro' (by show lk (Ed.pt (st i).hs x lot) x = some lot; rw [lk_pt, if_pos rfl])) (gv_vd (i := 8) rfl (rl8.mono t9.tups)) (rg_eqD (c := true) pl_ids pl_ids ⟨fun _ => rfl, fun _ => rfl⟩) H9 S0.r _ fun v10 H10 a10 ev => ?_
        have ev : v10 = .bl true := ev
        subst ev
        have s10 := S0.same a10
        have hks : ∀ k ∈ [8 + 3 * i, 17 + 3 * i], k < 24 := fun k hk => by simp at hk; omega
        have t8' : (SA (In L [8 + 3 * i, 17 + 3 * i])).T H7 H8 := SA.mono t8 (fun x m => ⟨17 + 3 * i, by simp, m⟩) (wd7.j hks)
        have t9' : (SA (In L [8 + 3 * i, 17 + 3 * i])).T H8 H9 := SA.mono t9 (fun x m => ⟨8 + 3 * i, by simp, m⟩) t8'.j'
        have T' := (t8'.trans t9').trans (.of_same t9'.j' s10)
        refine k H10 (upd1 st i { st i with hs := Ed.pt (st i).hs x lot }) kp G (all7.trans (wd7.all hks T')) (wd7.upd hks T' (.inl (by simp; omega)) (by simp; omega) (by simp; omega) (.inl ⟨by simp; omega, rfl⟩) (.inl (by simp; omega)) (.inl (by simp; omega)) (fun j hj => ?_) fun j hj => ?_) ((pi.heads hi (fun e he => ?_) (pt_nodup ok.hn)).step h18)
        · by_cases q : j = i
          · subst q; rw [upd1_same]; exact .inr (R9.same s10)
          · exact .inl ⟨by simp; omega, by simp; omega, by simp; omega, upd1_ne q⟩
        · by_cases q : j = i
          · subst q; rw [upd1_same]; exact .inr (O9.same s10)
          · exact .inl ⟨by simp; omega, by simp; omega, by simp; omega, upd1_ne q⟩
        · rcases pt_mem he with he | he
          · exact ok.hs e he
          · rw [he]; exact ⟨hx, hl⟩


end
end Ed

set_option maxHeartbeats 1000000
/-! EdPJ: what all have met, in plain terms. -/
namespace Ed
open PySem PySem.Spec PyProof.Rows L2
def hn (hs : Hds) (w : Str) : Prop := w ∈ hs.map (·.1)
def hv (hs : Hds) (w : Str) (c : Nat) : Prop := ∃ l, lk hs w = some l ∧ c ∈ l
theorem hn_pt {hs : Hds} {x w : Str} {l : List Nat} : hn (pt hs x l) w ↔ hn hs w ∨ w = x := by
  unfold hn
  rw [pt_keys]
  split
  · rename_i h
    exact ⟨.inl, fun q => q.elim id fun e => e ▸ h⟩
  · rw [List.mem_append, List.mem_singleton]
theorem hear_hn {h : Hds} : ∀ {hs : Hds} {w : Str}, hn (hearL hs h) w ↔ hn hs w ∨ hn h w := by
  induction h with
  | nil => intro hs w; exact ⟨.inl, fun q => q.elim id fun e => by cases e⟩
  | cons e h ih =>
    intro hs w
    have q := ih (hs := pt hs e.1 (both ((lk hs e.1).getD []) e.2)) (w := w)
    rw [hn_pt] at q
    refine Iff.trans q ?_
    unfold hn
    rw [List.map_cons, List.mem_cons, or_assoc]
theorem hv_pt {hs : Hds} {x w : Str} {b : List Nat} {c : Nat} : hv (pt hs x (both ((lk hs x).getD []) b)) w c ↔ hv hs w c ∨ (x = w ∧ c ∈ b) := by
  unfold hv
  rw [lk_pt]
  by_cases q : w = x
  · subst q
    rw [if_pos rfl]
    constructor
    · rintro ⟨l, e, hc⟩
      have e := Option.some.inj e
      subst e
      rcases both_mem.mp hc with hc | hc
      · cases z : lk hs w with
        | none => rw [z] at hc; cases hc
        | some l => rw [z] at hc; exact .inl ⟨l, rfl, hc⟩
      · exact .inr ⟨rfl, hc⟩
    · rintro (⟨l, e, hc⟩ | ⟨_, hc⟩)
      · exact ⟨_, rfl, both_mem.mpr (.inl (by rw [e]; exact hc))⟩
      · exact ⟨_, rfl, both_mem.mpr (.inr hc)⟩
  · rw [if_neg q]
    exact ⟨.inl, fun z => z.elim id fun e => absurd e.1.symm q⟩
theorem hear_hv {h : Hds} : ∀ {hs : Hds} {w : Str} {c : Nat}, hv (hearL hs h) w c ↔ hv hs w c ∨ ∃ e ∈ h, e.1 = w ∧ c ∈ e.2 := by
  induction h with
  | nil => intro hs w c; exact ⟨.inl, fun q => q.elim id fun ⟨e, he, _⟩ => by cases he⟩
  | cons e h ih =>
    intro hs w c
    have q := ih (hs := pt hs e.1 (both ((lk hs e.1).getD []) e.2)) (w := w) (c := c)
    rw [hv_pt] at q
    refine Iff.trans q ?_
    constructor
    · rintro ((a | a) | ⟨x, hx, a⟩)
      · exact .inl a
      · exact .inr ⟨e, List.mem_cons_self .., a⟩
      · exact .inr ⟨x, List.mem_cons_of_mem _ hx, a⟩
    · rintro (a | ⟨x, hx, a⟩)
      · exact .inl (.inl a)
      · rcases List.mem_cons.mp hx with rfl | hx
        · exact .inl (.inr a)
        · exact .inr ⟨x, hx, a⟩
theorem hear_nodup {h : Hds} : ∀ {hs : Hds}, (hs.map (·.1)).Nodup → ((hearL hs h).map (·.1)).Nodup := by
  induction h with
  | nil => intro hs q; exact q
  | cons e h ih => intro hs q; exact ih (hs := pt hs e.1 (both ((lk hs e.1).getD []) e.2)) (pt_nodup q)
theorem hdl_names {hs : Hds} : (hdl hs).map (·.1) = nmS (hs.map (·.1)) := by
  rw [hdl, List.map_map]
  exact List.map_id _
theorem nmS_in {ks : List Str} {x : Str} (hx : x = "main" ∨ x = "side") : x ∈ nmS ks ↔ x ∈ ks := by
  unfold nmS
  rw [List.mem_filter, decide_eq_true_iff]
  exact ⟨fun h => h.2, fun h => ⟨by rcases hx with rfl | rfl <;> simp, h⟩⟩
theorem nmS_ms {ks : List Str} {x : Str} (h : x ∈ nmS ks) : x = "main" ∨ x = "side" := by
  have := (List.mem_filter.mp h).1
  simpa using this
theorem hdl_hn {hs : Hds} {w : Str} (hk : ∀ e ∈ hs, e.1 = "main" ∨ e.1 = "side") : hn (hdl hs) w ↔ hn hs w := by
  unfold hn
  rw [hdl_names]
  constructor
  · exact nmS_mem
  · intro h
    obtain ⟨e, he, rfl⟩ := List.mem_map.mp h
    exact (nmS_in (hk e he)).mpr h
theorem hdl_hv {hs : Hds} {w : Str} {c : Nat} (hk : ∀ e ∈ hs, e.1 = "main" ∨ e.1 = "side") : (∃ e ∈ hdl hs, e.1 = w ∧ c ∈ e.2) ↔ hv hs w c := by
  constructor
  · rintro ⟨e, he, rfl, hc⟩
    obtain ⟨x, hx, rfl⟩ := List.mem_map.mp he
    obtain ⟨l, hl⟩ := lk_some (nmS_mem hx)
    have hc : c ∈ (lk hs x).getD [] := hc
    rw [hl] at hc
    exact ⟨l, hl, hc⟩
  · rintro ⟨l, hl, hc⟩
    have hm := lk_mem hl
    exact ⟨(w, (lk hs w).getD []), List.mem_map.mpr ⟨w, (nmS_in (hk _ hm)).mpr (List.mem_map.mpr ⟨_, hm, rfl⟩), rfl⟩, rfl, by rw [hl]; exact hc⟩
theorem lot_ext {a b : List Nat} (ha : Lot a) (hb : Lot b) (h : ∀ c, c ∈ a ↔ c ∈ b) : a = b :=
  sorted_eq ((List.perm_ext_iff_of_nodup (up_nodup ha.2) (up_nodup hb.2)).mpr h) (ha.2.imp Nat.le_of_lt) (hb.2.imp Nat.le_of_lt)
theorem hdl_eq {a b : Hds} (la : ∀ e ∈ a, Lot e.2) (lb : ∀ e ∈ b, Lot e.2) (h1 : ∀ w, hn a w ↔ hn b w) (h2 : ∀ w c, hv a w c ↔ hv b w c) : hdl a = hdl b := by
  have e1 : nmS (a.map (·.1)) = nmS (b.map (·.1)) := List.filter_congr fun x _ => decide_eq_decide.mpr (h1 x)
  unfold hdl
  rw [e1]
  refine List.map_congr_left fun x hx => ?_
  have hb := nmS_mem hx
  obtain ⟨l2, e2⟩ := lk_some hb
  obtain ⟨l1, e3⟩ := lk_some ((h1 x).mpr hb)
  rw [e2, e3]
  show (x, l1) = (x, l2)
  have e : l1 = l2 := lot_ext (a := l1) (b := l2) (la _ (lk_mem e3)) (lb _ (lk_mem e2)) fun c => ?_
  · rw [e]
  have := h2 x c
  constructor
  · intro hc
    obtain ⟨l, e, h⟩ := this.mp ⟨l1, e3, hc⟩
    rw [e2] at e
    cases e
    exact h
  · intro hc
    obtain ⟨l, e, h⟩ := this.mpr ⟨l2, e2, hc⟩
    rw [e3] at e
    cases e
    exact h
theorem ms_rise {ks : List Str} : (nmS ks).Pairwise (fun a b => PySem.W.dataLt (.str a) (.str b) = true) := by
  have h : (["main", "side"] : List Str).Pairwise (fun a b => PySem.W.dataLt (.str a) (.str b) = true) := by
    refine .cons (fun b hb => ?_) (.cons (fun b hb => by cases hb) .nil)
    rw [List.mem_singleton.mp hb]
    decide +kernel
  exact h.sublist List.filter_sublist
/-! ### everything taken, everything heard -/
def takes (st : Nat → RSt) (ks : List Nat) (log : Log) : Log := ks.foldl (fun l x => takeL l (pkt (st x) [])) log
def hears (st : Nat → RSt) (ks : List Nat) (hs : Hds) : Hds := ks.foldl (fun l x => hearL l (hdl (st x).hs)) hs
theorem takes_take {st : Nat → RSt} {ks : List Nat} {log : Log} {i x : Nat} (h : ks[i]? = some x) : takes st (ks.take (i + 1)) log = takeL (takes st (ks.take i) log) (pkt (st x) []) := by
  rw [List.take_add_one, h]
  simp [takes]
theorem hears_take {st : Nat → RSt} {ks : List Nat} {hs : Hds} {i x : Nat} (h : ks[i]? = some x) : hears st (ks.take (i + 1)) hs = hearL (hears st (ks.take i) hs) (hdl (st x).hs) := by
  rw [List.take_add_one, h]
  simp [hears]
theorem pkt_all {s : RSt} {c : Nat} : c ∈ (pkt s []).map (·.1) ↔ c ∈ keys s.log := by
  rw [pkt_keys, List.mem_filter]
  simp only [List.not_mem_nil, not_false_eq_true, decide_true, and_true]
  exact srt_perm.mem_iff
theorem keys_takes {st : Nat → RSt} {ks : List Nat} : ∀ {log : Log} {c : Nat}, c ∈ keys (takes st ks log) ↔ c ∈ keys log ∨ ∃ x ∈ ks, c ∈ keys (st x).log := by
  induction ks with
  | nil => intro log c; exact ⟨.inl, fun q => q.elim id fun ⟨x, hx, _⟩ => by cases hx⟩
  | cons y ks ih =>
    intro log c
    refine Iff.trans (ih (log := takeL log (pkt (st y) []))) ?_
    rw [keys_take, pkt_all]
    constructor
    · rintro ((a | a) | ⟨x, hx, a⟩)
      · exact .inl a
      · exact .inr ⟨y, List.mem_cons_self .., a⟩
      · exact .inr ⟨x, List.mem_cons_of_mem _ hx, a⟩
    · rintro (a | ⟨x, hx, a⟩)
      · exact .inl (.inl a)
      · rcases List.mem_cons.mp hx with rfl | hx
        · exact .inl (.inr a)
        · exact .inr ⟨x, hx, a⟩
section
variable {fs : List Kd} {line : List Int} {st st' : Nat → RSt} {kp : List Log} {G : Log} {n i : Nat}
theorem PI.names (h : PI fs line st kp G n) (hi : i < 3) : ∀ e ∈ (st i).hs, e.1 = "main" ∨ e.1 = "side" := fun e he => ((h.ok i hi).hs e he).1
theorem hn_hears (h : PI fs line st kp G n) {ks : List Nat} : ∀ {hs : Hds}, (∀ x ∈ ks, x < 3) → ∀ w, hn (hears st ks hs) w ↔ hn hs w ∨ ∃ x ∈ ks, hn (st x).hs w := by
  induction ks with
  | nil => intro hs _ c; exact ⟨.inl, fun q => q.elim id fun ⟨x, hx, _⟩ => by cases hx⟩
  | cons y ks ih =>
    intro hs hk w
    refine Iff.trans (ih (hs := hearL hs (hdl (st y).hs)) (fun x hx => hk x (List.mem_cons_of_mem _ hx)) w) ?_
    rw [hear_hn, hdl_hn (h.names (hk y (List.mem_cons_self ..)))]
    constructor
    · rintro ((a | a) | ⟨x, hx, a⟩)
      · exact .inl a
      · exact .inr ⟨y, List.mem_cons_self .., a⟩
      · exact .inr ⟨x, List.mem_cons_of_mem _ hx, a⟩
    · rintro (a | ⟨x, hx, a⟩)
      · exact .inl (.inl a)
      · rcases List.mem_cons.mp hx with rfl | hx
        · exact .inl (.inr a)
        · exact .inr ⟨x, hx, a⟩
theorem hv_hears (h : PI fs line st kp G n) {ks : List Nat} : ∀ {hs : Hds}, (∀ x ∈ ks, x < 3) → ∀ w c, hv (hears st ks hs) w c ↔ hv hs w c ∨ ∃ x ∈ ks, hv (st x).hs w c := by
  induction ks with
  | nil => intro hs _ w c; exact ⟨.inl, fun q => q.elim id fun ⟨x, hx, _⟩ => by cases hx⟩
  | cons y ks ih =>
    intro hs hk w c
    refine Iff.trans (ih (hs := hearL hs (hdl (st y).hs)) (fun x hx => hk x (List.mem_cons_of_mem _ hx)) w c) ?_
    rw [hear_hv, hdl_hv (h.names (hk y (List.mem_cons_self ..)))]
    constructor
    · rintro ((a | a) | ⟨x, hx, a⟩)
      · exact .inl a
      · exact .inr ⟨y, List.mem_cons_self .., a⟩
      · exact .inr ⟨x, List.mem_cons_of_mem _ hx, a⟩
    · rintro (a | ⟨x, hx, a⟩)
      · exact .inl (.inl a)
      · rcases List.mem_cons.mp hx with rfl | hx
        · exact .inl (.inr a)
        · exact .inr ⟨x, hx, a⟩
/-- what replicas below k have met -/
structure Met (st : Nat → RSt) (k : Nat) (st' : Nat → RSt) : Prop where
  key : ∀ i, i < 3 → i < k → ∀ c, c ∈ keys (st' i).log ↔ ∃ j, j < 3 ∧ c ∈ keys (st j).log
  hn : ∀ i, i < 3 → i < k → ∀ w, hn (st' i).hs w ↔ ∃ j, j < 3 ∧ hn (st j).hs w
  hv : ∀ i, i < 3 → i < k → ∀ w c, hv (st' i).hs w c ↔ ∃ j, j < 3 ∧ hv (st j).hs w c
  old : ∀ i, i < 3 → k ≤ i → st' i = st i
theorem upd1_upd1 {s s' : RSt} : upd1 (upd1 st i s) i s' = upd1 st i s' := by
  funext j
  unfold upd1
  split <;> rfl
theorem mix_ex {p : Nat → Prop} {ks : List Nat} (h3 : ∀ x ∈ ks, x < 3) (h : ∀ j, j < 3 → j ∈ ks) (hi : i < 3) : (p i ∨ ∃ x ∈ ks, p x) ↔ ∃ j, j < 3 ∧ p j :=
  ⟨fun q => q.elim (fun a => ⟨i, hi, a⟩) fun ⟨x, hx, a⟩ => ⟨x, h3 x hx, a⟩, fun ⟨j, hj, a⟩ => .inr ⟨j, h j hj, a⟩⟩
theorem Met.step (h : PI fs line st kp G n) (m : Met st i st') (hi : i < 3) {ks ls : List Nat} (k3 : ∀ x ∈ ks, x < 3) (ka : ∀ j, j < 3 → j ∈ ks) (l3 : ∀ x ∈ ls, x < 3) (la : ∀ j, j < 3 → j ∈ ls) :
    Met st (i + 1) (upd1 st' i { st i with log := takes st ks (st i).log, hs := hears st ls (st i).hs }) := by
  refine ⟨fun j hj hk c => ?_, fun j hj hk w => ?_, fun j hj hk w c => ?_, fun j hj hk => ?_⟩
  · by_cases q : j = i
    · subst q; rw [upd1_same]; exact keys_takes.trans (mix_ex (p := fun j => c ∈ keys (st j).log) k3 ka hi)
    · rw [upd1_ne q]; exact m.key j hj (by omega) c
  · by_cases q : j = i
    · subst q; rw [upd1_same]; exact (hn_hears h l3 w).trans (mix_ex (p := fun j => Ed.hn (st j).hs w) l3 la hi)
    · rw [upd1_ne q]; exact m.hn j hj (by omega) w
  · by_cases q : j = i
    · subst q; rw [upd1_same]; exact (hv_hears h l3 w c).trans (mix_ex (p := fun j => Ed.hv (st j).hs w c) l3 la hi)
    · rw [upd1_ne q]; exact m.hv j hj (by omega) w c
  · rw [upd1_ne (by omega)]; exact m.old j hj (by omega)
end
end Ed

set_option maxHeartbeats 1000000
/-! EdD15: all meet. -/
namespace Ed
open PySem PySem.Spec PyProof.Rows L2 LamX NdefX
section
variable {P : Program} {w : World} {K : PySem.W.Frag} {mg : Str → Option Value} {base : Heap}
open LamX NdefX
variable {C CV Pt Ph : Addr}
theorem for_list {S : Sys} {H : Hp} {σ : L2.St} {te : TE} {g : TG} {tu : TS} {D : Ends} {R : Addr → List V → Hp → Prop} (h : Ge S te σ H fun v H' => ∃ p xs, v = .ref p ∧ H' p = some (.lst xs) ∧ R p xs H') (j : S.J H) (k : ∀ p xs H1, S.T H H1 → H1 p = some (.lst xs) → R p xs H1 → tFor (iList K (tC (.ref p))) g tu D σ H1) : tFor (iList K te) g tu D σ H := h H (.refl j) _ fun v H1 a ⟨p, xs, e, hp, r⟩ => by
  subst e
  exact k p xs H1 a hp r
/-- 0, 1, 2 and one of them, mixed -/
theorem ge_mix4 {src : Addr} {σ : L2.St} {H : Hp} (e0 : σ[0]? = some (some (.ref src))) : Ge (SS src) (tCall sp_law_mixed [] E0 (tCons (tVar 0) (tCons (tLst (tCons (tC (.int 0)) (tCons (tC (.int 1)) (tCons (tC (.int 2)) (tCons (tCall sp_law_take [] E0 (tCons (tVar 0) (tCons (tC (.int 3)) tNil))) tNil))))) tNil))) σ H
    fun v H' => ∃ p xs, v = .ref p ∧ H' p = some (.lst xs) ∧ H p = none ∧ ∃ ks : List Nat, xs = ks.map (fun z : Nat => V.int (z : Int)) ∧ (∀ x ∈ ks, x < 3) ∧ (∀ j, j < 3 → j ∈ ks) ∧ ks.length ≤ 10 := fun H1 a Q k => by
  refine ⟨.ref src, e0, ?_⟩
  refine ge_take (S := SS src) hasSS (top := 3) (σ := σ) (ga_two (gv_val (i := 0) e0) gv_int) (by decide) (by decide) H1 a.fin _ fun v H2 a2 ⟨t, ht, ev⟩ => ?_
  subst ev
  refine ⟨small64 (by show 4 < 64; decide), fun q hq => ?_⟩
  have a3 : (SS src).T H2 (upd H2 q (.lst [.int 0, .int 1, .int 2, .int (t : Int)])) := .new a2.j' hq
  refine ⟨src, q, _, rfl, a3.j', fun e => ?_, upd_same, by show 4 ≤ 100000; decide, fun p ys H4 hp a4 he pm => ?_⟩
  · obtain ⟨b, m, h, _⟩ := a2.j'
    rw [e, h] at hq
    cases hq
  · obtain ⟨ks, pk, ek⟩ := perm_map (enc := fun z : Nat => V.int (z : Int)) (l := [0, 1, 2, t]) (es := ys) pm
    have a34 := a3.trans a4
    have hm : ∀ j, j ∈ ks ↔ j ∈ [0, 1, 2, t] := fun j => pk.mem_iff
    refine k _ H4 (a2.trans a34) ⟨p, ys, rfl, he, (a.trans a2).free (a3.free hp), ks, ek, fun x hx => ?_, fun j hj => (hm j).mpr ?_, by rw [pk.length_eq]; show 4 ≤ 10; decide⟩
    · have := (hm x).mp hx
      simp at this
      omega
    · have : j = 0 ∨ j = 1 ∨ j = 2 := by omega
      rcases this with rfl | rfl | rfl <;> simp
theorem gl_sortedSN {S : Sys} {σ : L2.St} {H : Hp} {te : TE} {ks : List Str} (h : GvL S te σ H (ks.map fun x => Ob.val (.str x))) (hk : ∀ x ∈ ks, x = "main" ∨ x = "side") (nd : ks.Nodup) : GvL S (tCB (rSortedS K) (tCons te tNil)) σ H ((nmS ks).map fun x => Ob.val (.str x)) := fun H1 t Q k =>
  h H1 t _ fun p xs H2 hp t2 he hx => by
    have ex : xs = ks.map V.str := val_isL (xs := ks.map V.str) (by rw [List.map_map]; exact hx)
    subst ex
    have l2 : ks.length < 64 := by
      have e : ks.length ≤ (["main", "side"] : List Str).length := nodup_sub nd fun x hx => by
        rcases hk x hx with rfl | rfl <;> simp
      exact Nat.lt_of_le_of_lt e (by decide)
    refine ⟨p, ks, rfl, SqL.of he, l2, fun ys q pm so hq => ?_⟩
    rw [nm_eq hk nd pm so]
    have t3 := Sys.T.new (S := S) (o := .lst ((nmS ks).map V.str)) t2.j' hq
    exact k q _ _ (t2.free hq) (t2.trans t3) upd_same (isL_strs _)
theorem upd1_self {st : Nat → RSt} {i : Nat} {s : RSt} (h : st i = s) : upd1 st i s = st := by
  funext j
  by_cases q : j = i
  · subst q; rw [upd1_same, h]
  · exact upd1_ne q
theorem pl_heads {n : Nat} {h : Hds} (hk : ∀ e ∈ h, PyData.strOk e.1 = true) : pl (n + 5) (headsD h) = true := by
  simp only [headsD, pl, List.all_eq_true, List.mem_map]
  rintro x ⟨e, he, rfl⟩
  simp only [pl, List.all_eq_true]
  intro y hy
  simp only [List.mem_cons, List.not_mem_nil, or_false] at hy
  rcases hy with rfl | rfl
  · simpa [pl] using hk e he
  · exact pl_ids (n := n)
theorem hdl_strOk {hs : Hds} : ∀ e ∈ hdl hs, (e.1 = "main" ∨ e.1 = "side") ∧ okName e.1 = true ∧ PyData.strOk e.1 = true := fun e he => by
  have h : e.1 ∈ (hdl hs).map (·.1) := List.mem_map.mpr ⟨e, he, rfl⟩
  rw [hdl_names] at h
  have := nmS_ms h
  refine ⟨this, ?_⟩
  rcases this with q | q <;> rw [q] <;> exact ⟨by decide +kernel, by decide +kernel⟩
theorem at_list {xs : List V} {os : List Ob} {H : Hp} {j : Nat} {o : Ob} (h : IsL H xs os) (e : os[j]? = some o) : ∃ v, xs[j]? = some v ∧ Is H v o := by
  have hl : j < xs.length := by rw [h.length]; exact (List.getElem?_eq_some_iff.mp e).1
  exact ⟨xs[j], List.getElem?_eq_getElem hl, h.get (List.getElem?_eq_getElem hl) e⟩
theorem Wd.take1 {L : List Addr} {st : Nat → RSt} {kp : List Log} {H H' : Hp} {i : Nat} {s : RSt} (h : Wd C Pt Ph L st kp H) (hi : i < 3) (T : (SA fun x => x = At L (7 + 3 * i) ∨ x = Pt ∨ x = At L (16 + 3 * i)).T H H') (R : RAt C H' (At L (6 + 3 * i)) (At L (7 + 3 * i)) (At L (8 + 3 * i)) s) (O : OAt H' (At L (15 + 3 * i)) (At L (16 + 3 * i)) (At L (17 + 3 * i)) s) (tab : TabS H' Pt qT) : Wd C Pt Ph L (upd1 st i s) kp H' ∧ (SA fun x => x ∈ L).T H H' := by
  have hks : ∀ k ∈ [7 + 3 * i, 4, 16 + 3 * i], k < 24 := fun k hk => by simp at hk; omega
  have T' : (SA (In L [7 + 3 * i, 4, 16 + 3 * i])).T H H' := SA.mono T (fun x m => m.elim (fun e => ⟨_, by simp, e⟩) fun m => m.elim (fun e => ⟨4, by simp, e.trans h.ept.symm⟩) fun e => ⟨16 + 3 * i, by simp, e⟩) (h.j hks)
  refine ⟨h.upd hks T' (.inl (by simp; omega)) (by simp; omega) (by simp; omega) (.inl ⟨by simp; omega, rfl⟩) (.inr tab) (.inl (by simp; omega)) (fun j hj => ?_) fun j hj => ?_, h.all hks T'⟩
  · by_cases q : j = i
    · subst q; rw [upd1_same]; exact .inr R
    · exact .inl ⟨by simp; omega, by simp; omega, by simp; omega, upd1_ne q⟩
  · by_cases q : j = i
    · subst q; rw [upd1_same]; exact .inr O
    · exact .inl ⟨by simp; omega, by simp; omega, by simp; omega, upd1_ne q⟩
theorem Wd.hear1 {L : List Addr} {st : Nat → RSt} {kp : List Log} {H H' : Hp} {i : Nat} {s : RSt} (h : Wd C Pt Ph L st kp H) (hi : i < 3) (T : (SA (In L [8 + 3 * i, 5, 17 + 3 * i])).T H H') (R : RAt C H' (At L (6 + 3 * i)) (At L (7 + 3 * i)) (At L (8 + 3 * i)) s) (O : OAt H' (At L (15 + 3 * i)) (At L (16 + 3 * i)) (At L (17 + 3 * i)) s) (tab : TabS H' Ph qH) : Wd C Pt Ph L (upd1 st i s) kp H' ∧ (SA fun x => x ∈ L).T H H' := by
  have hks : ∀ k ∈ [8 + 3 * i, 5, 17 + 3 * i], k < 24 := fun k hk => by simp at hk; omega
  refine ⟨h.upd hks T (.inl (by simp; omega)) (by simp; omega) (by simp; omega) (.inl ⟨by simp; omega, rfl⟩) (.inl (by simp; omega)) (.inr tab) (fun j hj => ?_) fun j hj => ?_, h.all hks T⟩
  · by_cases q : j = i
    · subst q; rw [upd1_same]; exact .inr R
    · exact .inl ⟨by simp; omega, by simp; omega, by simp; omega, upd1_ne q⟩
  · by_cases q : j = i
    · subst q; rw [upd1_same]; exact .inr O
    · exact .inl ⟨by simp; omega, by simp; omega, by simp; omega, upd1_ne q⟩
def sp_law_all_met (C Pt Ph : Addr) : Sp := fun vs H Q _ => ∃ (L : List Addr) (st : Nat → RSt) (kp : List Log) (fs : List Kd) (line : List Int) (G : Log) (n : Nat), vs = [.ref (At L 0), .ref (At L 1), .ref (At L 2)] ∧ Wd C Pt Ph L st kp H ∧ PI fs line st kp G n ∧
  ∀ H' st', (SA fun x => x ∈ L).T H H' → Wd C Pt Ph L st' kp H' → PI fs line st' kp G n → (∀ i, i < 3 → ∀ c, c ∈ keys (st' i).log ↔ c ∈ keys (st' 0).log) → Q (.bl true) H'

theorem sc_law_all_met : FnScope ["_law_source", "_law_replicas", "_law_owns", "_law_packets", "_law_heads_by", "_law_at", "_law_k", "_law_due", "_law_replica", "_law_word"] ["_law_source", "_law_replicas", "_law_owns"] (defScope s_law_all_met) := ⟨rfl, rfl, rfl, by decide +kernel, rfl, by decide +kernel, by decide +kernel⟩
theorem ok_law_all_met (T : Tx mg) (F : DfD K mg "_law_all_met" s_law_all_met) (G_law_take : Gd P w K mg base "_law_take" 1 sp_law_take) (G_law_mixed : Gd P w K mg base "_law_mixed" 2 sp_law_mixed) (G_law_heard_right : Gd P w K mg base "_law_heard_right" 10 (sp_law_heard_right C Pt)) (G_law_v_heard : Gd P w K mg base "_law_v_heard" 2 sp_law_v_heard) (M_Replica_packet : Md P w K mg base C "packet" 7 (sp_Replica_packet C)) (M_Replica_heads : Md P w K mg base C "heads" 1 (sp_Replica_heads C)) (M_Replica_hear : Md P w K mg base C "hear" 8 (sp_Replica_hear C Ph))  : Gd P w K mg base "_law_all_met" 11 (sp_law_all_met C Pt Ph) := gd_of (N := ["_law_source", "_law_replicas", "_law_owns", "_law_packets", "_law_heads_by", "_law_at", "_law_k", "_law_due", "_law_replica", "_law_word"]) F sc_law_all_met (fun _ _ _ _ _ _ us hl => match us, hl with | [_, _, _], _ => rfl) (fun vs H Q E h => by
  obtain ⟨L, st, kp, fs, line, G, n, rfl, _⟩ := h
  rfl) fun f cdv A outer s0 H vs Q E hr hsp => by
  obtain ⟨L, st, kp, fs, line, G, n, rfl, wd, pi, k⟩ := hsp
  refine ⟨_, (pss_cons (ps_setLc (i := 3) (own := [("_law_replica", 8)]) (g := (gName 8)) (tt := tYes) (te := (tMeth _ "packet" _ [] E0 (tVar 8) (tCons (tTup tNil) tNil))) rfl sc_law_all_met.nd rfl rfl (sw_true rfl rfl rfl (by decide +kernel)) (pi_list (pv 1)) (blkOk_by (N := ["_law_source", "_law_replicas", "_law_owns", "_law_packets", "_law_heads_by", "_law_at", "_law_k", "_law_due", "_law_replica", "_law_word"]) (sc := defScope s_law_all_met) (by decide +kernel)) (fun _ _ _ _ _ => (pgn 8 sc_law_all_met.nd)) (fun _ _ _ _ _ => pts_nil) (fun _ _ _ _ _ => (pe_md M_Replica_packet hr (pv 8) (pa_cons (pe_tup pa_nil) pa_nil))))
    (pss_cons (ps_setLc (i := 4) (own := [("_law_replica", 8)]) (g := (gName 8)) (tt := tYes) (te := (tMeth _ "heads" _ [] E0 (tVar 8) tNil)) rfl sc_law_all_met.nd rfl rfl (sw_true rfl rfl rfl (by decide +kernel)) (pi_list (pv 1)) (blkOk_by (N := ["_law_source", "_law_replicas", "_law_owns", "_law_packets", "_law_heads_by", "_law_at", "_law_k", "_law_due", "_law_replica", "_law_word"]) (sc := defScope s_law_all_met) (by decide +kernel)) (fun _ _ _ _ _ => (pgn 8 sc_law_all_met.nd)) (fun _ _ _ _ _ => pts_nil) (fun _ _ _ _ _ => (pe_md0 M_Replica_heads hr (pv 8))))
    (pss_cons (ps_for PassesOwn.never rfl (pi_range1 (by rfl) T.range (pa_cons pe_int pa_nil)) (pgn 5 sc_law_all_met.nd) (pss_cons (ps_for PassesOwn.never rfl (pi_list (pe_gd G_law_mixed hr (pa_cons (pv 0) (pa_cons (pe_lst (pa_cons pe_int (pa_cons pe_int (pa_cons pe_int (pa_cons (pe_gd G_law_take hr (pa_cons (pv 0) (pa_cons pe_int pa_nil))) pa_nil))))) pa_nil)))) (pgn 6 sc_law_all_met.nd) (pss_one (ps_if (pt_not (pt_val (pe_gd G_law_heard_right hr (pa_cons (pe_ix ix_list (pv 1) (pv 5) (fun _ _ => rfl)) (pa_cons (pe_ix ix_list (pv 2) (pv 5) (fun _ _ => rfl)) (pa_cons (pe_ix ix_list (pv 3) (pv 6) (fun _ _ => rfl)) pa_nil)))))) (pss_one (ps_ret pe_bl)) pss_nil)))
    (pss_cons (ps_for PassesOwn.never rfl (pi_list (pe_gd G_law_mixed hr (pa_cons (pv 0) (pa_cons (pe_lst (pa_cons pe_int (pa_cons pe_int (pa_cons pe_int (pa_cons (pe_gd G_law_take hr (pa_cons (pv 0) (pa_cons pe_int pa_nil))) pa_nil))))) pa_nil)))) (pgn 6 sc_law_all_met.nd) (pss_cons (ps_expr (pe_md M_Replica_hear hr (pe_ix ix_list (pv 1) (pv 5) (fun _ _ => rfl)) (pa_cons (pe_ix ix_list (pv 4) (pv 6) (fun _ _ => rfl)) pa_nil)))
    (pss_one (ps_expr (pe_gd G_law_v_heard hr (pa_cons (pe_ix ix_list (pv 2) (pv 5) (fun _ _ => rfl)) (pa_cons (pe_ix ix_list (pv 4) (pv 6) (fun _ _ => rfl)) pa_nil)))))))
    (pss_cons (psn 7 sc_law_all_met.nd (pe_ct call_tuple_of T.tuple boot_tuple (pa_cons (pe_lc (own := [("_law_word", 9)]) (g := (gName 9)) (tt := tYes) (te := (tTup (tCons (tVar 9) (tCons (tDGet (tDGet (tOp (rIxL K) (tVar 2) (tVar 5)) (tC _)) (tVar 9)) tNil)))) rfl sc_law_all_met.nd (pi_list (pe_cb cr_sortedS T.sorted boot_sorted (pa_cons (pe_lock (pe_lc (own := [("_law_word", 9)]) (g := (gName 9)) (tt := tYes) (te := (tVar 9)) rfl sc_law_all_met.nd (pi_keys (pe_dget (hu_of hr) (pe_ix ix_list (pv 2) (pv 5) (fun _ _ => rfl)) pe_str (fun _ _ => rfl))) (blkOk_by (N := ["_law_source", "_law_replicas", "_law_owns", "_law_packets", "_law_heads_by", "_law_at", "_law_k", "_law_due", "_law_replica", "_law_word"]) (sc := defScope s_law_all_met) (by decide +kernel)) (fun _ _ _ _ _ => (pgn 9 sc_law_all_met.nd)) (fun _ _ _ _ _ => pts_nil) (fun _ _ _ _ _ => (pv 9)))) pa_nil))) (blkOk_by (N := ["_law_source", "_law_replicas", "_law_owns", "_law_packets", "_law_heads_by", "_law_at", "_law_k", "_law_due", "_law_replica", "_law_word"]) (sc := defScope s_law_all_met) (by decide +kernel)) (fun _ _ _ _ _ => (pgn 9 sc_law_all_met.nd)) (fun _ _ _ _ _ => pts_nil) (fun _ _ _ _ _ => (pe_tup (pa_cons (pv 9) (pa_cons (pe_dget (hu_of hr) (pe_dget (hu_of hr) (pe_ix ix_list (pv 2) (pv 5) (fun _ _ => rfl)) pe_str (fun _ _ => rfl)) (pv 9) (fun _ _ => rfl)) pa_nil))))) pa_nil)))
    (pss_one (ps_if (pt_cmpR (op_neD hr.units) (pe_md0 M_Replica_heads hr (pe_ix ix_list (pv 1) (pv 5) (fun _ _ => rfl))) (pv 7) (nomark _)) (pss_one (ps_ret pe_bl)) pss_nil))))))
    (pss_one (ps_ret (pe_and (pe_cmpR (op_eqD hr.units) (pe_md0 M_Replica_heads hr (pe_ix ix_list (pv 1) pe_int (fun _ _ => rfl))) (pe_md0 M_Replica_heads hr (pe_ix ix_list (pv 1) pe_int (fun _ _ => rfl))) (nomark _)) (pe_one (pe_cmpR (op_eqD hr.units) (pe_md0 M_Replica_heads hr (pe_ix ix_list (pv 1) pe_int (fun _ _ => rfl))) (pe_md0 M_Replica_heads hr (pe_ix ix_list (pv 1) pe_int (fun _ _ => rfl))) (nomark _))))))))), ?_⟩
  have jL := wd.mut
  have three : ∀ {i z : Nat}, ([0, 1, 2] : List Nat)[i]? = some z → z = i ∧ i < 3 := fun {i z} h => by
    have : i < 3 := (List.getElem?_eq_some_iff.mp h).1
    have : i = 0 ∨ i = 1 ∨ i = 2 := by omega
    rcases this with rfl | rfl | rfl <;> cases h <;> exact ⟨rfl, by decide⟩
  have at3 : ∀ {i : Nat}, i < 3 → ([0, 1, 2] : List Nat)[i]? = some i := fun {i} h => by
    have : i = 0 ∨ i = 1 ∨ i = 2 := by omega
    rcases this with rfl | rfl | rfl <;> rfl
  dsimp only
  refine gx_set (S := S0) (GvL.ge (gl_lc1y (l := [0, 1, 2]) (f := fun j => Ob.dat (packD (pkt (st j) []))) (gi_list (a := At L 1) (Y := fun z x _ => z < 3 ∧ x = .ref (At L (6 + 3 * z))) (gv_val rfl) (fun H1 t => S0.same t _ _ wd.lr) rfl fun i x z H1 t hx hz => ?_) (by show 3 ≤ 100000; decide) (fun _ => rfl) fun j z x H1 hz a hy => ?_)) H S0.r _ ?_
  · obtain ⟨rfl, hi⟩ := three hz
    rw [(wd.at3 hi).1] at hx
    exact ⟨hi, (Option.some.inj hx).symm⟩
  · obtain ⟨hz3, rfl⟩ := hy
    exact gv_meth (m := "packet") (args := fun _ l => [.dat (idsD l)]) (pre := fun s l => Lot l) (res := fun s l => .dat (packD (pkt s l))) [] (gv_val rfl) (fun H2 t => ((wd.same (S0.same (a.trans t))).ra z hz3)) (ga_one (gv_tup (ds := []) ga_nil (Nat.zero_le _))) (pi.ok z hz3).toRO lot_nil
  rintro _ H1 a1 ⟨v1, ⟨p, xp, rfl, hp, _, hp1, hxp⟩, rfl⟩
  have wd1 := wd.same (S0.same a1)
  have np : p ∉ L := fun m => by
    obtain ⟨o, h, _⟩ := jL p m
    rw [hp] at h
    cases h
  dsimp only
  refine gx_set (S := S0) (GvL.ge (gl_lc1y (l := [0, 1, 2]) (f := fun j => Ob.dat (headsD (hdl (st j).hs))) (gi_list (a := At L 1) (Y := fun z x _ => z < 3 ∧ x = .ref (At L (6 + 3 * z))) (gv_val rfl) (fun H2 t => S0.same t _ _ wd1.lr) rfl fun i x z H2 t hx hz => ?_) (by show 3 ≤ 100000; decide) (fun _ => rfl) fun j z x H2 hz a hy => ?_)) H1 S0.r _ ?_
  · obtain ⟨rfl, hi⟩ := three hz
    rw [(wd1.at3 hi).1] at hx
    exact ⟨hi, (Option.some.inj hx).symm⟩
  · obtain ⟨hz3, rfl⟩ := hy
    exact gv_meth (m := "heads") (args := fun _ _ => []) (pre := fun s _ => HsOk s) (res := fun s _ => .dat (headsD (hdl s.hs))) () (gv_val rfl) (fun H2 t => ((wd1.same (S0.same (a.trans t))).ra z hz3)) ga_nil (pi.ok z hz3).toRO ⟨pi.names hz3, (pi.ok z hz3).hn⟩
  rintro _ H2 a2 ⟨v2, ⟨q, xq, rfl, hq, _, hq1, hxq⟩, rfl⟩
  have wd2 := wd1.same (S0.same a2)
  have nq : q ∉ L := fun m => by
    obtain ⟨o, h, _⟩ := wd1.mut q m
    rw [hq] at h
    cases h
  have hp2 := S0.same a2 _ _ hp1
  have hxp := hxp.to a2
  have all2 : (SA fun x => x ∈ L).T H H2 := .of_same jL (S0.same (a1.trans a2))
  have pkAt : ∀ {j : Nat}, j < 3 → ∃ v, xp[j]? = some v ∧ Rep H2 v (packD (pkt (st j) [])) := fun {j} hj => at_list (o := .dat _) hxp (by rw [List.getElem?_map, at3 hj]; rfl)
  have hdAt : ∀ {j : Nat}, j < 3 → ∃ v, xq[j]? = some v ∧ Rep H2 v (headsD (hdl (st j).hs)) := fun {j} hj => at_list (o := .dat _) hxq (by rw [List.getElem?_map, at3 hj]; rfl)
  dsimp only
  have pkOf : ∀ {j : Nat}, j < 3 → PkOk fs (pkt (st j) []) ∧ (∀ e ∈ pkt (st j) [], e ∈ G) ∧ (pkt (st j) []).length ≤ 18 := fun {j} hj => by
    have pk : PkOk fs (pkt (st j) []) := (pi.fl j hj).1 ▸ pkt_ok (pi.ok j hj).toRO
    have sb : ∀ e ∈ pkt (st j) [], e ∈ G := fun e he => pi.sub j hj e (pkt_mem he)
    exact ⟨pk, sb, Nat.le_trans (sub_few (up_nodup pk.up) sb) (Nat.le_trans pi.gn pi.n18)⟩
  refine loop_at (S := SA fun x => x ∈ L) (l := List.range 3) (gi_rngA (n := 3) all2.j' (ga_one gv_int) (by show 3 ≤ 100000; decide)) all2.j'
    (fun m σ' H' => ∃ (u5 u6 u7 : Option V) (st' : Nat → RSt), σ' = [some (.ref (At L 0)), some (.ref (At L 1)), some (.ref (At L 2)), some (.ref p), some (.ref q), u5, u6, u7, none, none] ∧ Wd C Pt Ph L st' kp H' ∧ PI fs line st' kp G n ∧ Met st m st')
    (fun H3 s => ⟨none, none, none, st, rfl, wd2.same s, pi, ⟨fun _ _ h => absurd h (Nat.not_lt_zero _), fun _ _ h => absurd h (Nat.not_lt_zero _), fun _ _ h => absurd h (Nat.not_lt_zero _), fun _ _ _ => rfl⟩⟩)
    (fun i z x σ' H' hz a hq' hy => ?_) fun σ' H3 a3 hq' => ?_
  · obtain ⟨H0, ⟨u5, u6, u7, st', rfl, wd0, pi', met⟩, s⟩ := hq'
    have wd' := wd0.same s
    have hi : i < 3 := by have := (List.getElem?_eq_some_iff.mp hz).1; rwa [List.length_range] at this
    have ez : z = i := by rw [List.getElem?_range hi] at hz; exact (Option.some.inj hz).symm
    subst ez
    subst hy
    have e0 : st' z = st z := met.old z hi (Nat.le_refl _)
    refine ⟨_, fun Q q => q, fun D' hrt kk hbk => ?_⟩
    refine for_list (S := SS (At L 0)) (ge_mix4 rfl) wd'.src fun pl ys H4 a4 hpl ⟨hfr, ks, eks, k3, ka, kl⟩ => ?_
    subst eks
    have wd4 := (wd'.ofS a4).1
    have all4 := a.trans (wd'.ofS a4).2
    have npl : pl ∉ L := fun m => by
      obtain ⟨o, h, _⟩ := wd'.mut pl m
      rw [hfr] at h
      cases h
    refine loop_at (S := SA fun x => x ∈ L) (l := ks) (gi_listA (l := ks) (a := pl) (xs := ks.map fun z : Nat => V.int (z : Int)) (Y := fun z x _ => x = .int (z : Int)) gv_cv hpl (by rw [List.length_map]) (fun H5 s5 H6 t6 => t6.k _ _ npl (s5 _ _ hpl)) (fun j x y H5 s5 H6 t6 hx hy => by
        rw [List.getElem?_map, hy] at hx
        exact (Option.some.inj hx).symm)) wd4.mut
      (fun m σ' H' => ∃ u6 : Option V, σ' = [some (.ref (At L 0)), some (.ref (At L 1)), some (.ref (At L 2)), some (.ref p), some (.ref q), some (.int (z : Int)), u6, u7, none, none] ∧ Wd C Pt Ph L (upd1 st' z { st z with log := takes st (ks.take m) (st z).log }) kp H' ∧ PI fs line (upd1 st' z { st z with log := takes st (ks.take m) (st z).log }) kp G n)
      (fun H5 s5 => ?_) (fun m y x σ' H5 hy a5 hq5 hx => ?_) fun σ' H5 a5 hq5 => ?_
    · have b0 : upd1 st' z { st z with log := takes st (ks.take 0) (st z).log } = st' := upd1_self e0
      rw [b0]
      exact ⟨u6, rfl, wd4.same s5, pi'⟩
    · obtain ⟨H6, ⟨u6', rfl, wdM, piM⟩, s6⟩ := hq5
      have wdM := wdM.same s6
      subst hx
      have y3 := k3 y (List.mem_of_getElem? hy)
      have all5 := all4.trans a5
      refine ⟨_, fun Q q => q, fun D2 hrt2 kk2 hbk2 => ?_⟩
      obtain ⟨vy, hvy, rvy⟩ := pkAt y3
      obtain ⟨pk, sb, pl18⟩ := pkOf y3
      have hR := wdM.ra z hi
      have hO := wdM.oa z hi
      have okM := (piM.ok z hi).toRO
      have lik := piM.like hi sb
      have piN := piM.take hi pk sb
      rw [upd1_upd1] at piN
      rw [upd1_same] at hR hO okM lik piN
      refine ⟨.ref (At L 1), rfl, .int (z : Int), rfl, At L 1, _, (z : Int), _, rfl, rfl, SqL.of wdM.lr, atI_nat (wdM.at3 hi).1, .ref (At L 2), rfl, .int (z : Int), rfl, At L 2, _, (z : Int), _, rfl, rfl, SqL.of wdM.lo, atI_nat (wdM.at3 hi).2, .ref p, rfl, .int (y : Int), rfl, p, xp, (y : Int), vy, rfl, rfl, SqL.of (all5.k _ _ np hp2), atI_nat hvy, ?_⟩
      refine ⟨At L (6 + 3 * z), At L (7 + 3 * z), At L (8 + 3 * z), At L (15 + 3 * z), At L (16 + 3 * z), At L (17 + 3 * z), _, vy, pkt (st y) [], rfl, hR, hO, okM, rvy.mono all5.tups, (by show PkOk (st z).fs _; rw [(pi.fl z hi).1]; exact pk), by omega, lik, wdM.pt, wd.ne (by omega) (by omega) (by omega), fun H7 T7 R7 O7 tab7 => ⟨true, rfl, ite2 (fun q => absurd q (by decide)) fun _ => ?_⟩⟩
      have w7 := wdM.take1 hi T7 R7 O7 tab7
      rw [upd1_upd1] at w7
      refine kk2 _ H7 w7.2 ⟨some (.int (y : Int)), rfl, ?_, ?_⟩
      · rw [takes_take hy]; exact w7.1
      · rw [takes_take hy]; exact piN
    · obtain ⟨u6', rfl, wd5, pi5⟩ := hq5
      rw [List.take_length] at wd5 pi5
      have all5 := all4.trans a5
      dsimp only
      refine for_list (S := SS (At L 0)) (ge_mix4 rfl) wd5.src fun pl2 ys2 H6 a6 hpl2 ⟨hfr2, ls, els, l3, la, ll⟩ => ?_
      subst els
      have wd6 := (wd5.ofS a6).1
      have all6 := all5.trans (wd5.ofS a6).2
      have npl2 : pl2 ∉ L := fun m => by
        obtain ⟨o, h, _⟩ := wd5.mut pl2 m
        rw [hfr2] at h
        cases h
      have kT : ∀ c, c ∈ keys (takes st ks (st z).log) ↔ ∃ j, j < 3 ∧ c ∈ keys (st j).log := fun c => keys_takes.trans (mix_ex (p := fun j => c ∈ keys (st j).log) k3 ka hi)
      have okT := pi5.ok z hi
      rw [upd1_same] at okT
      have logT : (keys (takes st ks (st z).log)).length ≤ 18 := by
        have := pi5.log hi
        rw [upd1_same] at this
        rw [keys_len]
        exact Nat.le_trans this pi.n18
      have hdOf : ∀ {j : Nat}, j < 3 → ∀ e ∈ hdl (st j).hs, Lot e.2 ∧ ∀ c ∈ e.2, c ∈ keys (takes st ks (st z).log) := fun {j} hj e he => by
        obtain ⟨x, hx, rfl⟩ := List.mem_map.mp he
        obtain ⟨l, hl⟩ := lk_some (nmS_mem hx)
        have ho := (pi.ok j hj).hs _ (lk_mem hl)
        show Lot ((lk (st j).hs x).getD []) ∧ _
        rw [hl]
        exact ⟨ho.2.1, fun c hc => (kT c).mpr ⟨j, hj, ho.2.2 c hc⟩⟩
      have hdN : ∀ {j : Nat}, (hdl (st j).hs).length ≤ 2 := fun {j} => by
        rw [hdl, List.length_map]
        exact nmS_len _
      refine loop_at (S := SA fun x => x ∈ L) (l := ls) (gi_listA (l := ls) (a := pl2) (xs := ls.map fun z : Nat => V.int (z : Int)) (Y := fun z x _ => x = .int (z : Int)) gv_cv hpl2 (by rw [List.length_map]) (fun H5 s5 H6 t6 => t6.k _ _ npl2 (s5 _ _ hpl2)) (fun j x y H5 s5 H6 t6 hx hy => by
          rw [List.getElem?_map, hy] at hx
          exact (Option.some.inj hx).symm)) wd6.mut
        (fun m σ' H' => ∃ u6 : Option V, σ' = [some (.ref (At L 0)), some (.ref (At L 1)), some (.ref (At L 2)), some (.ref p), some (.ref q), some (.int (z : Int)), u6, u7, none, none] ∧ Wd C Pt Ph L (upd1 st' z { st z with log := takes st ks (st z).log, hs := hears st (ls.take m) (st z).hs }) kp H' ∧ PI fs line (upd1 st' z { st z with log := takes st ks (st z).log, hs := hears st (ls.take m) (st z).hs }) kp G n)
        (fun H7 s7 => ⟨u6', rfl, wd6.same s7, pi5⟩) (fun m y x σ' H7 hy a7 hq7 hx => ?_) fun σ' H7 a7 hq7 => ?_
      · obtain ⟨H8, ⟨u6'', rfl, wdM, piM⟩, s8⟩ := hq7
        have wdM := wdM.same s8
        subst hx
        have y3 := l3 y (List.mem_of_getElem? hy)
        have all7 := all6.trans a7
        refine ⟨_, fun Q q => q, fun D2 hrt2 kk2 hbk2 => ?_⟩
        obtain ⟨vy, hvy, rvy⟩ := hdAt y3
        have hR := wdM.ra z hi
        have hO := wdM.oa z hi
        have okM := piM.ok z hi
        have rvy := rvy.mono all7.tups
        have hq2 := all7.k _ _ nq hq1
        rw [upd1_same] at hR hO okM
        have few2 := okM.few2
        have hlots : ∀ e ∈ hears st (ls.take m) (st z).hs, Lot e.2 ∧ ∀ c ∈ e.2, c ∈ keys (takes st ks (st z).log) := fun e he => (okM.hs e he).2
        have hdy := hdOf y3
        have hny := hdN (j := y)
        obtain ⟨dx, vF', vA', hr1, _⟩ := id hR
        have ne : ∀ {j k : Nat}, j < 24 → k < 24 → j ≠ k → At L j ≠ At L k := fun a b c => wd.ne a b c
        refine ⟨.ref (At L 1), rfl, .int (z : Int), rfl, At L 1, _, (z : Int), _, rfl, rfl, SqL.of wdM.lr, atI_nat (wdM.at3 hi).1, At L (6 + 3 * z), dx, _, rfl, hr1, rfl, .ref q, rfl, .int (y : Int), rfl, q, xq, (y : Int), vy, rfl, rfl, SqL.of hq2, atI_nat hvy, ?_⟩
        refine ⟨At L (6 + 3 * z), At L (7 + 3 * z), At L (8 + 3 * z), _, vy, hdl (st y).hs, rfl, hR, okM.toRO, rvy, by omega, by omega, (by rw [hdl_names]; exact ms_rise), fun e he => ⟨(hdl_strOk e he).2.1, (hdl_strOk e he).2.2, (hdy e he).1, Nat.le_trans (lot_sub (hdy e he).1 (hdy e he).2) (by omega), (hdy e he).2⟩, hlots, by show (keys (takes st ks (st z).log)).length ≤ 30; omega, wdM.ph, fun H9 T9 R9 tab9 => ?_⟩
        have hks : ∀ k ∈ [8 + 3 * z, 5, 17 + 3 * z], k < 24 := fun k hk => by simp at hk; omega
        have T9' : (SA (In L [8 + 3 * z, 5, 17 + 3 * z])).T H7 H9 := SA.mono T9 (fun x m => m.elim (fun e => ⟨_, by simp, e⟩) fun e => ⟨5, by simp, e.trans wd.eph.symm⟩) (wdM.j hks)
        have all9 := all7.trans (wdM.all hks T9')
        have eph : Ph = At L 5 := wd.eph.symm
        have O9 := hO.to T9 (fun m => m.elim (ne (by omega) (by omega) (by omega)) (by rw [eph]; exact ne (by omega) (by omega) (by omega))) (fun m => m.elim (ne (by omega) (by omega) (by omega)) (by rw [eph]; exact ne (by omega) (by omega) (by omega))) (fun m => m.elim (ne (by omega) (by omega) (by omega)) (by rw [eph]; exact ne (by omega) (by omega) (by omega)))
        refine ⟨.ref (At L 2), rfl, .int (z : Int), rfl, At L 2, _, (z : Int), _, rfl, rfl, SqL.of (T9'.k _ _ (wd.out hks (by decide) (by simp; omega)) wdM.lo), atI_nat (wdM.at3 hi).2, .ref q, rfl, .int (y : Int), rfl, q, xq, (y : Int), vy, rfl, rfl, SqL.of (all9.k _ _ nq hq1), atI_nat hvy, ?_⟩
        refine ⟨At L (15 + 3 * z), At L (16 + 3 * z), At L (17 + 3 * z), _, vy, hdl (st y).hs, rfl, O9, by omega, by omega, rvy.mono T9'.tups, fun e he => (hdy e he).1, fun e he => (hlots e he).1, fun H10 T10 O10 => ?_⟩
        have T10' : (SA (In L [8 + 3 * z, 5, 17 + 3 * z])).T H9 H10 := SA.mono T10 (fun x m => ⟨17 + 3 * z, by simp, m⟩) T9'.j'
        have R10 := R9.to T10 (ne (by omega) (by omega) (by omega)) (ne (by omega) (by omega) (by omega)) (ne (by omega) (by omega) (by omega))
        have tab10 := TabS.to tab9 T10 (by rw [eph]; exact ne (by omega) (by omega) (by omega))
        have w10 := wdM.hear1 hi (T9'.trans T10') R10 O10 tab10
        have piN := piM.heads hi (hs := hearL (hears st (ls.take m) (st z).hs) (hdl (st y).hs)) (fun e he => ?_) (hear_nodup okM.hn)
        · rw [upd1_upd1] at w10 piN
          rw [upd1_same] at piN
          refine kk2 _ H10 w10.2 ⟨some (.int (y : Int)), rfl, ?_, ?_⟩
          · rw [hears_take hy]; exact w10.1
          · rw [hears_take hy]; exact piN
        · rw [upd1_same]
          refine ⟨?_, hear_known hlots hdy e he⟩
          have hm : hn (hearL (hears st (ls.take m) (st z).hs) (hdl (st y).hs)) e.1 := List.mem_map.mpr ⟨e, he, rfl⟩
          rcases hear_hn.mp hm with hm | hm
          · obtain ⟨x, hx, ex⟩ := List.mem_map.mp hm
            have := (okM.hs x hx).1
            rwa [show x.1 = e.1 from ex] at this
          · obtain ⟨x, hx, ex⟩ := List.mem_map.mp hm
            have := (hdl_strOk x hx).1
            rwa [show x.1 = e.1 from ex] at this
      · obtain ⟨u6'', rfl, wd7, pi7⟩ := hq7
        rw [List.take_length] at wd7 pi7
        have all7 := all6.trans a7
        have met7 := Met.step pi met hi k3 ka l3 la
        have hO7 := wd7.oa z hi
        have hR7 := wd7.ra z hi
        have okF := pi7.ok z hi
        rw [upd1_same] at hO7 hR7 okF
        have namesF : ∀ e ∈ hears st ls (st z).hs, e.1 = "main" ∨ e.1 = "side" := fun e he => (okF.hs e he).1
        have nameF : ∀ x ∈ (hears st ls (st z).hs).map (·.1), x = ("main" : Str) ∨ x = "side" := fun x hx => by
          obtain ⟨e, he, rfl⟩ := List.mem_map.mp hx
          exact namesF e he
        have ndF : ((hears st ls (st z).hs).map (·.1)).Nodup := okF.hn
        have fewF : (hears st ls (st z).hs).length ≤ 2 := okF.few2
        obtain ⟨vF, vL, ho1, _, _, _, dHd⟩ := id hO7
        have dHd : HdD H7 (At L (17 + 3 * z)) (hears st ls (st z).hs) := dHd
        obtain ⟨kvs, hd, ha⟩ := id dHd
        have lk' : kvs.map (·.1) = ((hears st ls (st z).hs).map (·.1)).map kS := by rw [ha.k, List.map_map]; rfl
        have gOH : ∀ {σ : L2.St} {H8 : Hp}, σ[2]? = some (some (.ref (At L 2))) → σ[5]? = some (some (.int (z : Int))) → H8 (At L 2) = some (.lst [.ref (At L 15), .ref (At L 18), .ref (At L 21)]) → H8 (At L (15 + 3 * z)) = some (.dK (ownF (hnd (st z).i) vF vL (At L (16 + 3 * z)) (At L (17 + 3 * z)))) →
            Gv S0 (tDGet (tOp (rIxL K) (tVar 2) (tVar 5)) (tC (.str "heads"))) σ H8 (.val (.ref (At L (17 + 3 * z)))) := fun e2 e5 h1 h2 =>
          gv_own (gv_ixQ (K := K) (o := .val _) (gv_val e2) (gv_val e5) rfl (fun H9 t => SqL.of (S0.same t _ _ h1)) (wd.at3 hi).2 rfl) (fun H9 t => S0.same t _ _ h2) o_heads rfl
        have n1 : At L 2 ≠ At L (17 + 3 * z) := wd.ne (by omega) (by omega) (by omega)
        have n2 : At L (15 + 3 * z) ≠ At L (17 + 3 * z) := wd.ne (by omega) (by omega) (by omega)
        dsimp only
        refine gx_set (S := S0) (Gv.ge (o := .dat (headsD (hdl (hears st ls (st z).hs)))) (Gv.cast (gv_tupE (l := nmS ((hears st ls (st z).hs).map (·.1))) (f := fun x => .tuple [.str x, idsD ((lk (hears st ls (st z).hs) x).getD [])]) (gl_lc1y (Y := fun x v H => Is H v (.val (.str x))) (gi_listN (f := fun x => Ob.val (.str x)) (gl_sortedSN (ks := (hears st ls (st z).hs).map (·.1)) (gl_lock (d := At L (17 + 3 * z)) (u := .dK kvs) (fun H8 t => S0.same t _ _ hd) trivial (fun H8 od t => ?_) (fun xs e => by cases e)) nameF ndF)) (Nat.le_trans (nmS_len _) (by show 2 ≤ 100000; decide)) (fun _ => rfl) fun j x v H8 hz8 a8 hy8 => ?_)) (by rw [headsD, hdl, List.map_map]; rfl))) H7 S0.r _ ?_
        · refine gl_lc1y (S := S0) (α := Str) (l := (hears st ls (st z).hs).map (·.1)) (f := fun x => Ob.val (.str x)) (Y := fun z x _ => x = V.str z) (gi_keysS (kvs := kvs) (td := tDGet (tOp (rIxL K) (tVar 2) (tVar 5)) (tC (.str "heads"))) (d := At L (17 + 3 * z)) ?_ upd_same lk') (by rw [List.length_map]; omega) (fun _ => rfl) fun j x v H9 hz9 a9 hy9 => ?_
          · exact gOH rfl rfl (by rw [upd_ne n1]; exact S0.same t _ _ wd7.lo) (by rw [upd_ne n2]; exact S0.same t _ _ ho1)
          · have hy9 : v = .str x := hy9
            subst hy9
            exact gv_val rfl
        · have hx : v = .str x := hy8
          subst hx
          have hm := nmS_mem (List.mem_of_getElem? hz8)
          obtain ⟨l, hl⟩ := lk_some hm
          rw [hl]
          exact gv_tup (ds := [.str x, idsD l]) (ga_two (Gv.str_dat (gv_val rfl)) (gv_dgetS (gOH rfl rfl (S0.same a8 _ _ wd7.lo) (S0.same a8 _ _ ho1)) (gv_val rfl) (fun H9 t => dHd.same (S0.same (a8.trans t))) hl)) (by show 2 ≤ 100000; decide)
        rintro _ H8 a8 ⟨vd, rd, rfl⟩
        have rd : Rep H8 vd (headsD (hdl (hears st ls (st z).hs))) := rd
        have wd8 := wd7.same (S0.same a8)
        have hR8 := hR7.same (S0.same a8)
        dsimp only
        refine raw_if (S := S0) (b := false) (GvT.cast (gt_test (gv_op (r := rNeD K) (gv_meth (m := "heads") (args := fun _ _ => []) (pre := fun s _ => HsOk s) (res := fun s _ => .dat (headsD (hdl s.hs))) () (gv_ixQ (K := K) (o := .val (.ref (At L (6 + 3 * z)))) (gv_val rfl) (gv_val rfl) rfl (fun H9 t => SqL.of (S0.same t _ _ wd8.lr)) (wd8.at3 hi).1 rfl) (fun H9 t => hR8.same (S0.same t)) ga_nil okF.toRO ⟨namesF, ndF⟩) (gv_vd (i := 7) rfl rd) (rg_neD (c := true) (pl_heads fun e he => (hdl_strOk e he).2.2) (pl_heads fun e he => (hdl_strOk e he).2.2) ⟨fun _ => rfl, fun _ => rfl⟩))) rfl) trivial (fun e => nomatch e) fun _ H9 a9 => ?_
        have s9 := S0.same (a8.trans a9)
        exact kk _ H9 ((wd'.ofS a4).2.trans (a5.trans ((wd5.ofS a6).2.trans (a7.trans (.of_same a7.j' s9))))) ⟨some (.int (z : Int)), u6'', some vd, _, rfl, wd7.same s9, pi7, met7⟩
  · obtain ⟨u5, u6, u7, st', rfl, wd3, pi3, met⟩ := hq'
    rw [List.length_range] at met
    have allE := all2.trans a3
    have he : ∀ i j, i < 3 → j < 3 → hdl (st' i).hs = hdl (st' j).hs := fun i j hi hj =>
      hdl_eq (fun e he => ((pi3.ok i hi).hs e he).2.1) (fun e he => ((pi3.ok j hj).hs e he).2.1) (fun w => (met.hn i hi hi w).trans (met.hn j hj hj w).symm) fun w c => (met.hv i hi hi w c).trans (met.hv j hj hj w c).symm
    have gh : ∀ {σ : L2.St} {i : Nat}, i < 3 → σ[1]? = some (some (.ref (At L 1))) → Gv S0 (tMeth C "heads" (sp_Replica_heads C) [] E0 (tOp (rIxL K) (tVar 1) (tC (.int (i : Int)))) tNil) σ H3 (.dat (headsD (hdl (st' 0).hs))) := fun {σ i} hi e1 => by
      rw [he 0 i (by decide) hi]
      exact gv_meth (m := "heads") (args := fun _ _ => []) (pre := fun s _ => HsOk s) (res := fun s _ => .dat (headsD (hdl s.hs))) () (gv_ixQ (K := K) (o := .val (.ref (At L (6 + 3 * i)))) (gv_val e1) gv_int rfl (fun H9 t => SqL.of (S0.same t _ _ wd3.lr)) (wd3.at3 hi).1 rfl) (fun H9 t => (wd3.ra i hi).same (S0.same t)) ga_nil (pi3.ok i hi).toRO ⟨fun e he => ((pi3.ok i hi).hs e he).1, (pi3.ok i hi).hn⟩
    have eqh : ∀ {H4 : Hp}, RG S0 (rEqD K) (.dat (headsD (hdl (st' 0).hs))) (.dat (headsD (hdl (st' 0).hs))) H4 (.val (.bl true)) := fun {H4} => rg_eqD (c := true) (pl_heads fun e he => (hdl_strOk e he).2.2) (pl_heads fun e he => (hdl_strOk e he).2.2) ⟨fun _ => rfl, fun _ => rfl⟩
    refine gv_andV (S := S0) (b := true) (c := true) (gv_op (gh (i := 0) (by decide) rfl) (gh (i := 1) (by decide) rfl) eqh) (fun _ => gv_op (gh (i := 1) (by decide) rfl) (gh (i := 2) (by decide) rfl) eqh) H3 S0.r _ fun v H4 a4 ev => ?_
    have ev : v = .bl true := ev
    subst ev
    have s4 := S0.same a4
    exact k H4 st' (allE.trans (.of_same allE.j' s4)) (wd3.same s4) pi3 fun i hi c => (met.key i hi hi c).trans (met.key 0 (by decide) (by decide) c).symm


end
end Ed

set_option maxHeartbeats 1000000
/-! EdPK: one record, in plain terms. -/
namespace Ed
open PySem PySem.Spec PyProof.Rows L2
theorem mod_back {x y z : Int} (h0 : 0 ≤ z) (h1 : z < x) : ((y + z).fmod x - y).fmod x = z := by
  have hx : 0 ≤ x := by omega
  rw [Int.fmod_eq_emod_of_nonneg _ hx, Int.fmod_eq_emod_of_nonneg _ hx, Int.emod_def (y + z) x]
  have e : y + z - x * ((y + z) / x) - y = z - x * ((y + z) / x) := by omega
  rw [e, Int.sub_mul_emod_self_left, Int.emod_eq_of_lt h0 h1]
theorem stp_put : ∀ {s h m : List Int}, h.length = s.length → m.length = s.length → (∀ p ∈ m.zip s, 0 ≤ p.1 ∧ p.1 < p.2) → stp s h (put s h m) = m
  | [], h, m, h1, h2, _ => by
    have : h = [] := List.eq_nil_of_length_eq_zero h1
    have : m = [] := List.eq_nil_of_length_eq_zero h2
    subst this
    subst h
    rfl
  | x :: s, y :: h, z :: m, h1, h2, h3 => by
    have ih := stp_put (s := s) (h := h) (m := m) (Nat.succ.inj h1) (Nat.succ.inj h2) fun p hp => h3 p (by rw [List.zip_cons_cons]; exact List.mem_cons_of_mem _ hp)
    have hz := h3 (z, x) (by rw [List.zip_cons_cons]; exact List.mem_cons_self ..)
    have e : stp (x :: s) (y :: h) (put (x :: s) (y :: h) (z :: m)) = ((y + z).fmod x - y).fmod x :: stp s h (put s h m) := rfl
    rw [e, ih, mod_back hz.1 hz.2]
theorem stps_puts : ∀ {fs : List Kd} {a m : Am}, a.length = fs.length → m.length = fs.length → (∀ p ∈ fs.zip a, Ok1 p.1.1 p.2) → (∀ p ∈ fs.zip m, Ok1 p.1.1 p.2) → stps fs a (puts fs a m) = m
  | [], a, m, h1, h2, _, _ => by
    have : a = [] := List.eq_nil_of_length_eq_zero h1
    have : m = [] := List.eq_nil_of_length_eq_zero h2
    subst this
    subst a
    rfl
  | k :: fs, x :: a, y :: m, h1, h2, h3, h4 => by
    have ih := stps_puts (fs := fs) (a := a) (m := m) (Nat.succ.inj h1) (Nat.succ.inj h2) (fun p hp => h3 p (by rw [List.zip_cons_cons]; exact List.mem_cons_of_mem _ hp)) fun p hp => h4 p (by rw [List.zip_cons_cons]; exact List.mem_cons_of_mem _ hp)
    have hx : Ok1 k.1 x := h3 (k, x) (by rw [List.zip_cons_cons]; exact List.mem_cons_self ..)
    have hy : Ok1 k.1 y := h4 (k, y) (by rw [List.zip_cons_cons]; exact List.mem_cons_self ..)
    have e : stps (k :: fs) (x :: a) (puts (k :: fs) (x :: a) (y :: m)) = stp k.1 x (put k.1 x y) :: stps fs a (puts fs a m) := rfl
    rw [e, ih, stp_put hx.1 hy.1 hy.2]
def recI (fs : List Kd) (g : Am) : List Int := (fs.zip g).map fun p => ((@List.idxOf _ instBEqOfDecidableEq p.2 p.1.2 : Nat) : Int)
theorem getElem_idx {x : List Int} {l : List (List Int)} (h : @List.idxOf _ instBEqOfDecidableEq x l < l.length) : l[@List.idxOf _ instBEqOfDecidableEq x l] = x := by
  letI : BEq (List Int) := instBEqOfDecidableEq
  exact List.getElem_idxOf h
theorem rec_all : ∀ {fs : List Kd} {g : Am}, g.length = fs.length → (∀ o ∈ recAt fs g, o ≠ none) → recAt fs g = (recI fs g).map some ∧ OkR fs (recI fs g) ∧ amOf fs (recI fs g) = g
  | [], g, h1, _ => by
    have : g = [] := List.eq_nil_of_length_eq_zero h1
    subst this
    exact ⟨rfl, ⟨rfl, fun p hp => by cases hp⟩, rfl⟩
  | k :: fs, x :: g, h1, h2 => by
    have hk : kst k x ≠ none := h2 _ (List.mem_cons_self ..)
    obtain ⟨e1, e2, e3⟩ := rec_all (fs := fs) (g := g) (Nat.succ.inj h1) fun o ho => h2 o (List.mem_cons_of_mem _ ho)
    have hm : x ∈ k.2 := by
      unfold kst at hk
      split at hk
      · assumption
      · exact absurd rfl hk
    have hs : kst k x = some ((@List.idxOf _ instBEqOfDecidableEq x k.2 : Nat) : Int) := by unfold kst; rw [if_pos hm]
    have hl : @List.idxOf _ instBEqOfDecidableEq x k.2 < k.2.length := by
      letI : BEq (List Int) := instBEqOfDecidableEq
      exact List.idxOf_lt_length_iff.mpr hm
    refine ⟨?_, ⟨?_, fun p hp => ?_⟩, ?_⟩
    · show kst k x :: recAt fs g = some _ :: (recI fs g).map some
      rw [hs, e1]
    · show (recI fs g).length + 1 = fs.length + 1
      rw [e2.1]
    · rcases List.mem_cons.mp hp with rfl | hp
      · show 0 ≤ ((@List.idxOf _ instBEqOfDecidableEq x k.2 : Nat) : Int) ∧ ((@List.idxOf _ instBEqOfDecidableEq x k.2 : Nat) : Int) < (k.2.length : Int)
        omega
      · exact e2.2 p hp
    · show k.2.getD ((@List.idxOf _ instBEqOfDecidableEq x k.2 : Nat) : Int).toNat [] :: amOf fs (recI fs g) = x :: g
      rw [e3, Int.toNat_natCast, List.getD_eq_getElem?_getD, List.getElem?_eq_getElem hl]
      show k.2[@List.idxOf _ instBEqOfDecidableEq x k.2] :: g = x :: g
      rw [getElem_idx hl]
theorem recD_some {r : List Int} : recD (r.map some) = tupI r := by
  rw [recD, List.map_map]
  rfl
section
variable {fs : List Kd} {line : List Int} {st : Nat → RSt} {kp : List Log} {G : Log} {n i : Nat}
theorem PI.sameIds (h : PI fs line st kp G n) (hi : i < 3) (e : ∀ c, c ∈ keys (st i).log ↔ c ∈ keys (st 0).log) : srt idD (keys (st i).log) = srt idD (keys (st 0).log) :=
  srt_eq (fun c hc => (h.ok i hi).toRO.key hc) ((List.perm_ext_iff_of_nodup (h.ok i hi).log.nd (h.ok 0 (by decide)).log.nd).mpr e)
theorem PI.lkD (h : PI fs line st kp G n) (hi : i < 3) {c : Nat} (h1 : c ∈ keys (st i).log) (h2 : c ∈ keys (st 0).log) : Ed.lkD (st i).log c = Ed.lkD (st 0).log c :=
  lkD_of h.g.nd (h.sub i hi) h1 (h.sub 0 (by decide) _ (lk_mem (lkD_eq h2)))
theorem PI.sameWalk (h : PI fs line st kp G n) (hi : i < 3) (e : ∀ c, c ∈ keys (st i).log ↔ c ∈ keys (st 0).log) {lot : List Nat} (hl : ∀ c ∈ lot, c ∈ keys (st 0).log) : walkA (st i) lot = walkA (st 0) lot := by
  obtain ⟨a1, a2, _⟩ := h.fl i hi
  obtain ⟨b1, b2, _⟩ := h.fl 0 (by decide)
  unfold walkA
  rw [a1, a2, b1, b2]
  have key : ∀ (l : List Nat) (a : Am), (∀ c ∈ l, c ∈ keys (st 0).log) → l.foldl (fun a c => puts fs a (Ed.lkD (st i).log c)) a = l.foldl (fun a c => puts fs a (Ed.lkD (st 0).log c)) a := by
    intro l
    induction l with
    | nil => intro a _; rfl
    | cons c l ih =>
      intro a hl
      rw [List.foldl_cons, List.foldl_cons, h.lkD hi ((e c).mpr (hl c (List.mem_cons_self ..))) (hl c (List.mem_cons_self ..))]
      exact ih _ fun x hx => hl x (List.mem_cons_of_mem _ hx)
  exact key lot _ hl
theorem PI.sameDict (h : PI fs line st kp G n) (hi : i < 3) (e : ∀ c, c ∈ keys (st i).log ↔ c ∈ keys (st 0).log) : (st i).log.length = (st 0).log.length ∧ ∀ x ∈ (st i).log, lk (st 0).log x.1 = some x.2 := by
  have pm := (List.perm_ext_iff_of_nodup (h.ok i hi).log.nd (h.ok 0 (by decide)).log.nd).mpr e
  refine ⟨by have := pm.length_eq; rwa [List.length_map, List.length_map] at this, fun x hx => ?_⟩
  have h1 := mem_keys hx
  have h2 := (e _).mp h1
  rw [lkD_eq h2, ← h.lkD hi h1 h2]
  have := lk_of_mem (h.ok i hi).log.nd (c := x.1) (b := x.2) hx
  rw [lkD_eq h1] at this
  exact this
end
end Ed

set_option maxHeartbeats 1000000
/-! EdD16: one record. -/
namespace Ed
open PySem PySem.Spec PyProof.Rows L2 LamX NdefX
section
variable {P : Program} {w : World} {K : PySem.W.Frag} {mg : Str → Option Value} {base : Heap}
open LamX NdefX
variable {C CV Pt Ph : Addr}
/-- a list just made is empty -/
theorem gt_neNil {S : Sys} {H : Hp} {σ : L2.St} {te : TE} (h : GvL S te σ H []) : GvT S (tTest (tOp (rNeD K) te (tLst tNil))) σ H false := fun H1 t Q k =>
  h H1 t _ fun p xs H2 hp t2 he hx => ⟨Nat.zero_le _, fun q hq => by
    have ex : xs = [] := by cases hx; rfl
    subst ex
    have t3 : S.T H2 (upd H2 q (.lst [])) := .new t2.j' hq
    have nq : p ≠ q := fun e => by rw [e, hq] at he; cases he
    exact ⟨.list [], .list [], .lst (SqL.of (by rw [upd_ne nq]; exact he)) .nil, .lst (SqL.of upd_same) .nil, by rfl, by rfl, false, rfl, k _ (t2.trans t3)⟩⟩
theorem gv_tupV {S : Sys} {H : Hp} {σ : L2.St} {te : TE} {a : Addr} {xs : List V} {ds : List PyData} (h : Gv S te σ H (.val (.ref a))) (ha : ∀ H1, S.T H H1 → H1 a = some (.lst xs)) (hx : ∀ H1, S.T H H1 → Reps H1 xs ds) : Gv S (tCB (rTupOf K) (tCons te tNil)) σ H (.dat (.tuple ds)) := fun H1 t Q k =>
  h H1 t _ fun v H2 t2 hv => by
    cases hv
    refine ⟨a, xs, rfl, .inl ⟨SqL.of (ha H2 (t.trans t2)), fun l hl => ?_⟩⟩
    have t3 : S.T H2 (upd H2 l (.tup xs)) := .new t2.j' hl
    exact k _ _ (t2.trans t3) (.tup upd_same (hx _ (t.trans (t2.trans t3))))
theorem Wd.keep {L : List Addr} {st : Nat → RSt} {kp : List Log} {H H' : Hp} {S : Sys} (h : Wd C Pt Ph L st kp H) (t : S.T H H') (n : ∀ x ∈ L, ¬ S.M x) : Wd C Pt Ph L st kp H' := by
  have o : ∀ {k}, k < 24 → ¬ S.M (At L k) := fun hk => n _ (h.mem hk)
  exact ⟨h.len, h.nd, (by obtain ⟨b, m, h1, h2⟩ := h.src; exact ⟨b, m, t.k _ _ (o (by decide)) h1, h2⟩), t.k _ _ (o (by decide)) h.lr, t.k _ _ (o (by decide)) h.lo, (by obtain ⟨xs, h1, h2⟩ := h.lk; exact ⟨xs, t.k _ _ (o (by decide)) h1, h2.mono t.tups⟩), h.ept, h.eph,
    TabS.to h.pt t (by have := o (k := 4) (by decide); rwa [h.ept] at this), TabS.to h.ph t (by have := o (k := 5) (by decide); rwa [h.eph] at this), fun i hi => (h.ra i hi).to t (o (by omega)) (o (by omega)) (o (by omega)), fun i hi => (h.oa i hi).to t (o (by omega)) (o (by omega)) (o (by omega))⟩
theorem VAt.to {S : Sys} {H H' : Hp} {r lS lB : Addr} {s : VSt} (h : VAt CV H r lS lB s) (t : S.T H H') (n1 : ¬ S.M r) (n2 : ¬ S.M lS) (n3 : ¬ S.M lB) : VAt CV H' r lS lB s := by
  obtain ⟨dx, vF, vA, xs, ys, h1, h2, h3, h4, h5, h6, h7⟩ := h
  exact ⟨dx, vF, vA, xs, ys, t.k _ _ n1 h1, h2.mono t.tups, h3.mono t.tups, t.k _ _ n2 h4, h5.mono t.tups, t.k _ _ n3 h6, h7⟩
def sp_law_one_record (C Pt Ph : Addr) : Sp := fun vs H Q _ => ∃ (L : List Addr) (st : Nat → RSt) (kp : List Log) (fs : List Kd) (line : List Int) (G : Log) (n : Nat), vs = [.ref (At L 0), .ref (At L 1), .ref (At L 2)] ∧ Wd C Pt Ph L st kp H ∧ PI fs line st kp G n ∧ (∀ i, i < 3 → ∀ c, c ∈ keys (st i).log ↔ c ∈ keys (st 0).log) ∧ ∀ H', Q (.bl true) H'

theorem sc_law_one_record : FnScope ["_law_source", "_law_replicas", "_law_owns", "_law_ids", "_law_sorts", "_law_line", "_law_turn", "_law_lot", "_law_here", "_law_replica", "_law_vault", "_law_places", "_law_one_here", "_law_ahead", "_law_goal", "_law_own"] ["_law_source", "_law_replicas", "_law_owns"] (defScope s_law_one_record) := ⟨rfl, rfl, rfl, by decide +kernel, rfl, by decide +kernel, by decide +kernel⟩
theorem ok_law_one_record (T : Tx mg) (F : DfD K mg "_law_one_record" s_law_one_record) (G_law_v_ids : Gd P w K mg base "_law_v_ids" 1 sp_law_v_ids) (G_law_some : Gd P w K mg base "_law_some" 2 sp_law_some) (G_law_v_amounts_by_ids : Gd P w K mg base "_law_v_amounts_by_ids" 3 sp_law_v_amounts_by_ids) (G_law_v_record_at : Gd P w K mg base "_law_v_record_at" 2 sp_law_v_record_at) (G_law_v_moved : Gd P w K mg base "_law_v_moved" 2 sp_law_v_moved) (M_Replica_record : Md P w K mg base C "record" 9 (sp_Replica_record C)) (M_Replica_amounts : Md P w K mg base C "amounts" 8 (sp_Replica_amounts C)) (M_Replica_known : Md P w K mg base C "known" 1 (sp_Replica_known C)) (M_Vault_amounts : Md P w K mg base CV "amounts" 6 (sp_Vault_amounts CV)) (M_Vault_edit : Md P w K mg base CV "edit" 6 (sp_Vault_edit CV)) (M_Vault_steps_of : Md P w K mg base CV "steps_of" 5 (sp_Vault_steps_of CV)) (M_Vault : Mc P w K mg base "Vault" CV 10 (sp_Vault_init CV))  : Gd P w K mg base "_law_one_record" 12 (sp_law_one_record C Pt Ph) := gd_of (N := ["_law_source", "_law_replicas", "_law_owns", "_law_ids", "_law_sorts", "_law_line", "_law_turn", "_law_lot", "_law_here", "_law_replica", "_law_vault", "_law_places", "_law_one_here", "_law_ahead", "_law_goal", "_law_own"]) F sc_law_one_record (fun _ _ _ _ _ _ us hl => match us, hl with | [_, _, _], _ => rfl) (fun vs H Q E h => by
  obtain ⟨L, st, kp, fs, line, G, n, rfl, _⟩ := h
  rfl) fun f cdv A outer s0 H vs Q E hr hsp => by
  obtain ⟨L, st, kp, fs, line, G, n, rfl, wd, pi, same, k⟩ := hsp
  refine ⟨_, (pss_cons (psn 3 sc_law_one_record.nd (pe_gd G_law_v_ids hr (pa_cons (pe_ix ix_list (pv 2) pe_int (fun _ _ => rfl)) pa_nil)))
    (pss_cons (ps_if (pt_cmpR (op_neD hr.units) (pe_lc (own := [("_law_own", 15)]) (g := (gName 15)) (tt := (tTest (tOp rNeSt (tDGet (tVar 15) (tC _)) (tDGet (tOp (rIxL K) (tVar 2) (tC _)) (tC _))))) (te := (tVar 15)) rfl sc_law_one_record.nd (pi_list (pv 2)) (blkOk_by (N := ["_law_source", "_law_replicas", "_law_owns", "_law_ids", "_law_sorts", "_law_line", "_law_turn", "_law_lot", "_law_here", "_law_replica", "_law_vault", "_law_places", "_law_one_here", "_law_ahead", "_law_goal", "_law_own"]) (sc := defScope s_law_one_record) (by decide +kernel)) (fun _ _ _ _ _ => (pgn 15 sc_law_one_record.nd)) (fun _ _ _ _ _ => (pts_one (pt_cmpR (op_neSt hr) (pe_dget (hu_of hr) (pv 15) pe_str (fun _ _ => rfl)) (pe_dget (hu_of hr) (pe_ix ix_list (pv 2) pe_int (fun _ _ => rfl)) pe_str (fun _ _ => rfl)) (nomark _)))) (fun _ _ _ _ _ => (pv 15))) (pe_lst pa_nil) (nomark _)) (pss_one (ps_ret pe_bl)) pss_nil)
    (pss_cons (ps_par (i := 4) (j := 5) rfl sc_law_one_record.nd rfl rfl (by decide) (by rfl) (by rfl) (pa_cons (pe_dget (hu_of hr) (pe_ix ix_list (pv 2) pe_int (fun _ _ => rfl)) pe_str (fun _ _ => rfl)) (pa_cons (pe_dget (hu_of hr) (pe_ix ix_list (pv 2) pe_int (fun _ _ => rfl)) pe_str (fun _ _ => rfl)) pa_nil)) (by rfl))
    (pss_cons (ps_for PassesOwn.never rfl (pi_range1 (by rfl) T.range (pa_cons pe_int pa_nil)) (pgn 6 sc_law_one_record.nd) (pss_cons (psn 7 sc_law_one_record.nd (pe_ct call_tuple_of T.tuple boot_tuple (pa_cons (pe_gd G_law_some hr (pa_cons (pv 0) (pa_cons (pe_ct call_list_of T.list boot_list (pa_cons (pv 3) pa_nil)) pa_nil))) pa_nil)))
    (pss_cons (psn 8 sc_law_one_record.nd (pe_gd G_law_v_amounts_by_ids hr (pa_cons (pe_ix ix_list (pv 2) pe_int (fun _ _ => rfl)) (pa_cons (pv 7) pa_nil))))
    (pss_cons (ps_for PassesOwn.never rfl (pi_list (pv 1)) (pgn 9 sc_law_one_record.nd) (pss_one (ps_if (pt_pw (pw_or (pt_cmpR (op_neD hr.units) (pe_md0 M_Replica_known hr (pv 9)) (pv 3) (nomark _)) (pw_or (pt_cmpR (op_neD hr.units) (pe_md M_Replica_amounts hr (pv 9) (pa_cons (pv 7) pa_nil)) (pv 8) (nomark _)) (pw_or1 (pt_cmpR (op_neD hr.units) (pe_md M_Replica_record hr (pv 9) (pa_cons (pv 7) pa_nil)) (pe_gd G_law_v_record_at hr (pa_cons (pv 4) (pa_cons (pv 8) pa_nil))) (nomark _)))))) (pss_one (ps_ret pe_bl)) pss_nil)))
    (pss_cons (ps_par (i := 10) (j := 11) rfl sc_law_one_record.nd rfl rfl (by decide) (by rfl) (by rfl) (pa_cons (pe_mc M_Vault hr (pa_cons (pv 4) (pa_cons (pv 5) pa_nil))) (pa_cons (pe_lst pa_nil) pa_nil)) (by rfl))
    (pss_one (ps_for PassesOwn.never rfl (pi_tup (pv 7)) (pgn 12 sc_law_one_record.nd) (pss_cons (psn 13 sc_law_one_record.nd (pe_md M_Vault_amounts hr (pv 10) (pa_cons (pe_ct call_tuple_of T.tuple boot_tuple (pa_cons (pv 11) pa_nil)) pa_nil)))
    (pss_cons (psn 14 sc_law_one_record.nd (pe_gd G_law_v_record_at hr (pa_cons (pv 4) (pa_cons (pe_gd G_law_v_moved hr (pa_cons (pv 4) (pa_cons (pv 13) (pa_cons (pe_dget (hu_of hr) (pe_dget (hu_of hr) (pe_ix ix_list (pv 2) pe_int (fun _ _ => rfl)) pe_str (fun _ _ => rfl)) (pv 12) (fun _ _ => rfl)) pa_nil)))) pa_nil))))
    (pss_cons (ps_if (pt_cmpR (op_inTD (hu65 hr)) pe_non (pv 14) (by rfl)) (pss_one ps_break) pss_nil)
    (pss_cons (ps_expr (pe_bm PySem.F.plainAttrs_list PySem.F.slot_list_append PySem.F.type_list_append mt_append (pv 11) (pa_cons (pe_md M_Vault_edit hr (pv 10) (pa_cons (pe_ct call_tuple_of T.tuple boot_tuple (pa_cons (pv 11) pa_nil)) (pa_cons (pv 14) pa_nil))) pa_nil)))
    (pss_one (ps_if (pt_cmpR (op_neD hr.units) (pe_md M_Vault_steps_of hr (pv 10) (pa_cons (pe_ix ix_list (pv 11) (pe_op op_sub (pe_cb call_len_seq T.len boot_len (pa_cons (pv 11) pa_nil)) pe_int) (fun _ _ => rfl)) pa_nil)) (pe_dget (hu_of hr) (pe_dget (hu_of hr) (pe_ix ix_list (pv 2) pe_int (fun _ _ => rfl)) pe_str (fun _ _ => rfl)) (pv 12) (fun _ _ => rfl)) (nomark _)) (pss_one (ps_ret pe_bl)) pss_nil)))))))))))))
    (pss_one (ps_ret pe_bl)))))), ?_⟩
  have three : ∀ {i z : Nat}, ([0, 1, 2] : List Nat)[i]? = some z → z = i ∧ i < 3 := fun {i z} h => by
    have : i < 3 := (List.getElem?_eq_some_iff.mp h).1
    have : i = 0 ∨ i = 1 ∨ i = 2 := by omega
    rcases this with rfl | rfl | rfl <;> cases h <;> exact ⟨rfl, by decide⟩
  obtain ⟨f1, f2, f3⟩ := pi.fl 0 (by decide)
  have ok := pi.ok 0 (by decide)
  have hlog := pi.log (i := 0) (by decide)
  have h18 := pi.n18
  have own0 : ∀ {σ : L2.St} {H1 : Hp}, σ[2]? = some (some (.ref (At L 2))) → Wd C Pt Ph L st kp H1 → Gv S0 (tOp (rIxL K) (tVar 2) (tC (.int 0))) σ H1 (.val (.ref (At L 15))) := fun e2 w1 => gv_ixQ (K := K) (i := 0) (o := .val _) (gv_val e2) gv_int rfl (fun H9 t => SqL.of (S0.same t _ _ w1.lo)) rfl rfl
  dsimp only
  refine gx_set (S := S0) (Gv.ge (o := .dat (idsD (srt idD (keys (st 0).log)))) (gv_callO (args := fun _ _ => []) (pre := fun _ _ => True) (res := fun s _ => .dat (idsD (srt idD (keys s.log)))) () (own0 rfl wd) (fun H9 t => (wd.same (S0.same t)).oa 0 (by decide)) ga_nil ok.toRO trivial)) H S0.r _ ?_
  rintro _ H1 a1 ⟨vi, ri, rfl⟩
  have ri : Rep H1 vi (idsD (srt idD (keys (st 0).log))) := ri
  have wd1 := wd.same (S0.same a1)
  have stG : ∀ {σ : L2.St} {H5 : Hp} {te : TE} {j : Nat}, j < 3 → Wd C Pt Ph L st kp H5 → Gv S0 te σ H5 (.val (.ref (At L (15 + 3 * j)))) → Gv S0 (tDGet te (tC (.str "steps"))) σ H5 (.val (.ref (At L (16 + 3 * j)))) := fun {σ H5 te j} hj w5 h => by
    obtain ⟨vF, vL, ho1, _⟩ := w5.oa j hj
    exact gv_own h (fun H9 t => S0.same t _ _ ho1) o_steps rfl
  dsimp only
  refine raw_ifR (S := S0) (b := false) (gt_neNil ((gl_lc1 (l := [0, 1, 2]) (keep := fun _ => false) (f := fun j => Ob.val (.ref (At L (15 + 3 * j)))) (gi_list (a := At L 2) (Y := fun z x _ => z < 3 ∧ x = .ref (At L (15 + 3 * z))) (gv_val rfl) (fun H5 t => S0.same t _ _ wd1.lo) rfl fun i x z H5 t hx hz => ?_) (by show 3 ≤ 100000; decide) (fun _ => rfl) fun j z x H5 hz a hy => ⟨?_, fun e => nomatch e⟩).cast rfl)) trivial (fun e => nomatch e) fun _ H2 a2 => ?_
  · obtain ⟨rfl, hi⟩ := three hz
    rw [(wd1.at3 hi).2] at hx
    exact ⟨hi, (Option.some.inj hx).symm⟩
  · obtain ⟨hz3, rfl⟩ := hy
    have w5 := wd1.same (S0.same a)
    have sd := pi.sameDict hz3 (same z hz3)
    intro H6 a6 Q kq
    refine stG hz3 w5 (gv_val rfl) H6 a6 _ fun v1 H7 a7 e1 => ?_
    refine stG (j := 0) (by decide) w5 (own0 rfl w5) H7 (a6.trans a7) _ fun v2 H8 a8 e2 => ?_
    have e1 : v1 = .ref (At L (16 + 3 * z)) := e1
    have e2 : v2 = .ref (At L 16) := e2
    subst e1 e2
    have w8 := w5.same (S0.same ((a6.trans a7).trans a8))
    have okz := pi.ok z hz3
    exact ⟨At L (16 + 3 * z), At L 16, (st z).log, (st 0).log, rfl, rfl, (w8.oa z hz3).choose_spec.choose_spec.2.2.2.1, (w8.oa 0 (by decide)).choose_spec.choose_spec.2.2.2.1, okz.few, okz.log.id, ok.log.id, sd.1, sd.2, false, rfl, kq H8 (a7.trans a8)⟩
  have wd2 := wd1.same (S0.same a2)
  have ri := ri.mono a2.tups
  obtain ⟨vF, vL, ho1, oF, oL, _⟩ := wd2.oa 0 (by decide)
  rw [f1] at oF
  rw [f2] at oL
  refine gx_par (S := S0) (R := fun x y H' => x = vF ∧ y = vL) (ga_e2 (R1 := fun x _ => x = vF) (gv_own (o := .val vF) (own0 rfl wd2) (fun H9 t => S0.same t _ _ ho1) o_fields rfl).ge fun x H5 a5 ex => Ge.imp (gv_own (o := .val vL) (own0 rfl (wd2.same (S0.same a5))) (fun H9 t => S0.same (a5.trans t) _ _ ho1) o_first rfl).ge fun y H6 a6 ey => ⟨ex, ey⟩) H2 S0.r _ ?_
  rintro _ H3 a3 ⟨vF, vL, rfl, rfl, rfl⟩
  have wd3 := wd2.same (S0.same a3)
  have ri := ri.mono a3.tups
  have oF := oF.mono a3.tups
  have oL := oL.mono a3.tups
  have okF : OkF fs := f1 ▸ ok.fs
  have okL : OkR fs line := by have := ok.line; rwa [f1, f2] at this
  clear ho1
  dsimp only
  refine loop_at (S := SS (At L 0)) (l := List.range 5) (gi_rngA (n := 5) wd3.src (ga_one gv_int) (by show 5 ≤ 100000; decide)) wd3.src
    (fun m σ' H' => ∃ (u6 u7 u8 u9 u10 u11 u12 u13 u14 : Option V), σ' = [some (.ref (At L 0)), some (.ref (At L 1)), some (.ref (At L 2)), some vi, some vF, some vL, u6, u7, u8, u9, u10, u11, u12, u13, u14, none])
    (fun H4 s => ⟨_, _, _, _, _, _, _, _, _, rfl⟩) (fun i z x σ' H' hz a hq' hy => ?_) fun σ' H4 a4 hq' => ?_
  · obtain ⟨H0, ⟨u6, u7, u8, u9, u10, u11, u12, u13, u14, rfl⟩, s⟩ := hq'
    subst hy
    have wd4 := (wd3.ofS a).1
    have ri := ri.mono a.tups
    have oF := oF.mono a.tups
    have oL := oL.mono a.tups
    refine ⟨_, fun Q q => q, fun D' hrt kk hbk => ?_⟩
    refine gx_set (S := SS (At L 0)) (ge_sub (K := K) (enc := idD) (l := srt idD (keys (st 0).log)) hasSS (gv_val (i := 0) (by rfl)) (gv_vd (i := 3) (by rfl) ri) (by rw [srt_len, keys_len]; omega)) H' (.refl wd4.src) _ ?_
    rintro _ H5 a5 ⟨vl, ⟨lot, sub, rl⟩, rfl⟩
    have rl : Rep H5 vl (idsD lot) := rl
    have wd5 := (wd4.ofS a5).1
    have ri := ri.mono a5.tups
    have oF := oF.mono a5.tups
    have oL := oL.mono a5.tups
    have olot := lot_of_sub sub ok.toRO.lot
    have known : ∀ c ∈ lot, c ∈ keys (st 0).log := fun c hc => srt_key (sub.subset hc)
    have lotl : lot.length ≤ 18 := by
      have := sub.length_le
      rw [srt_len, keys_len] at this
      omega
    dsimp only
    refine gx_set (S := S0) (Gv.ge (o := .dat (amD (walkA (st 0) lot))) (gv_callO (args := fun _ l => [.dat (idsD l)]) (pre := fun s l => ∀ c ∈ l, c ∈ keys s.log) (res := fun s l => .dat (amD (walkA s l))) lot (own0 rfl wd5) (fun H9 t => (wd5.same (S0.same t)).oa 0 (by decide)) (ga_one (gv_vd (i := 7) rfl rl)) ok.toRO known)) H5 S0.r _ ?_
    rintro _ H6 a6 ⟨vh, rh, rfl⟩
    have rh : Rep H6 vh (amD (walkA (st 0) lot)) := rh
    have wd6 := wd5.same (S0.same a6)
    have ri := ri.mono a6.tups
    have rl := rl.mono a6.tups
    have oF := oF.mono a6.tups
    have oL := oL.mono a6.tups
    have w0 := walk_ok ok.toRO known
    rw [f1] at w0
    dsimp only
    refine loop_at (S := S0) (l := [0, 1, 2]) (gi_list (a := At L 1) (Y := fun z x _ => z < 3 ∧ x = .ref (At L (6 + 3 * z))) (gv_val rfl) (fun H7 t => S0.same t _ _ wd6.lr) rfl fun j x y H7 t hx hy => ?_) trivial
      (fun m σ' H' => ∃ u9 : Option V, σ' = [some (.ref (At L 0)), some (.ref (At L 1)), some (.ref (At L 2)), some vi, some vF, some vL, some (.int (z : Int)), some vl, some vh, u9, u10, u11, u12, u13, u14, none])
      (fun H7 s7 => ⟨_, rfl⟩) (fun m y x σ' H7 hy a7 hq7 hx => ?_) fun σ' H7 a7 hq7 => ?_
    · obtain ⟨rfl, hi⟩ := three hy
      rw [(wd6.at3 hi).1] at hx
      exact ⟨hi, (Option.some.inj hx).symm⟩
    · obtain ⟨H8, ⟨u9', rfl⟩, s8⟩ := hq7
      obtain ⟨y3, rfl⟩ := hx
      refine ⟨_, fun Q q => q, fun D2 hrt2 kk2 hbk2 => ?_⟩
      have wd7 := wd6.same (S0.same a7)
      have ri := ri.mono a7.tups
      have rl := rl.mono a7.tups
      have rh := rh.mono a7.tups
      have oF := oF.mono a7.tups
      have oky := (pi.ok y y3).toRO
      have hRy := wd7.ra y y3
      have e1 := pi.sameIds y3 (same y y3)
      have e2 := pi.sameWalk y3 (same y y3) known
      have ey := (pi.fl y y3).1
      have kny : ∀ c ∈ lot, c ∈ keys (st y).log := fun c hc => (same y y3 c).mpr (known c hc)
      refine raw_if (S := S0) (b := false) (GvT.cast (gt_or (b := false) (c := false) ?_ fun _ => gt_or (b := false) (c := false) ?_ fun _ => ?_) rfl) trivial (fun e => nomatch e) fun _ H9 a9 => kk2 _ H9 a9 ⟨_, rfl⟩
      · exact GvT.cast (gt_test (gv_op (r := rNeD K) (gv_meth (m := "known") (args := fun _ _ => []) (pre := fun _ _ => True) (res := fun s _ => .dat (idsD (srt idD (keys s.log)))) () (gv_val (i := 9) rfl) (fun H9 t => hRy.same (S0.same t)) ga_nil oky trivial) (gv_vd (i := 3) rfl ri) (rg_neD (c := true) pl_ids pl_ids ⟨fun _ => by rw [e1], fun _ => rfl⟩))) rfl
      · exact GvT.cast (gt_test (gv_op (r := rNeD K) (gv_meth (m := "amounts") (args := fun _ l => [.dat (idsD l)]) (pre := fun s l => Lot l ∧ ∀ c ∈ l, c ∈ keys s.log) (res := fun s l => .dat (amD (walkA s l))) lot (gv_val (i := 9) rfl) (fun H9 t => hRy.same (S0.same t)) (ga_one (gv_vd (i := 7) rfl rl)) oky ⟨olot, kny⟩) (gv_vd (i := 8) rfl rh) (rg_neD (c := true) pl_am pl_am ⟨fun _ => by rw [e2], fun _ => rfl⟩))) rfl
      · exact GvT.cast (gt_test (gv_op (r := rNeD K) (gv_meth (m := "record") (args := fun _ l => [.dat (idsD l)]) (pre := fun s l => Lot l ∧ ∀ c ∈ l, c ∈ keys s.log) (res := fun s l => .dat (recD (recAt s.fs (walkA s l)))) lot (gv_val (i := 9) rfl) (fun H9 t => hRy.same (S0.same t)) (ga_one (gv_vd (i := 7) rfl rl)) oky ⟨olot, kny⟩) (gv_call (ι := List Kd × List (List Int)) (fs, walkA (st 0) lot) (ga_two (gv_vd (i := 4) rfl oF) (gv_vd (i := 8) rfl rh)) ⟨okF, w0⟩) (rg_neD (c := true) pl_rec pl_rec ⟨fun _ => by rw [e2, ey], fun _ => rfl⟩))) rfl
    · obtain ⟨u9', rfl⟩ := hq7
      have wd7 := wd6.same (S0.same a7)
      have rl := rl.mono a7.tups
      have oF := oF.mono a7.tups
      have oL := oL.mono a7.tups
      have t47 : (SS (At L 0)).T H' H7 := a5.trans (.of_same a5.j' (S0.same (a6.trans a7)))
      refine ⟨vF, rfl, vL, rfl, fun x dx hx hdx nxd => ?_⟩
      have sm0 : Same H7 (upd (upd H7 dx (.own x)) x (.ins CV dx [])) := fun b o e => by
        rw [upd_ne (fun q => by rw [q, hx] at e; cases e), upd_ne (fun q => by rw [q, hdx] at e; cases e)]
        exact e
      refine ⟨x, dx, vF, vL, fs, line, rfl, upd_same, oF.mono (Same.tups sm0), oL.mono (Same.tups sm0), okF, okL, fun H8 lS lB T8 hlS hlB V8 => ⟨rfl, Nat.zero_le _, fun pl hpl => ⟨_, _, rfl, ?_⟩⟩⟩
      have sm8 : Same H7 H8 := fun b o e => T8.k b o (fun q => by rw [show b = x from q, hx] at e; cases e) (sm0 b o e)
      have sm9 : Same H7 (upd H8 pl (.lst [])) := fun b o e => by
        have e8 := sm8 b o e
        rw [upd_ne fun q => by rw [q, hpl] at e8; cases e8]
        exact e8
      have lS7 : H7 lS = none := by
        cases q : H7 lS with
        | none => rfl
        | some o => rw [sm0 _ _ q] at hlS; cases hlS
      have lB7 : H7 lB = none := by
        cases q : H7 lB with
        | none => rfl
        | some o => rw [sm0 _ _ q] at hlB; cases hlB
      have pl7 : H7 pl = none := by
        cases q : H7 pl with
        | none => rfl
        | some o => rw [sm8 _ _ q] at hpl; cases hpl
      have vne := V8.ne
      obtain ⟨np1, np2, np3⟩ : x ≠ pl ∧ lS ≠ pl ∧ lB ≠ pl := by
        obtain ⟨dx', vF', vA', xs, ys, h1, _, _, h4, _, h6, _⟩ := V8
        exact ⟨fun q => (by rw [q, hpl] at h1; cases h1), fun q => (by rw [q, hpl] at h4; cases h4), fun q => (by rw [q, hpl] at h6; cases h6)⟩
      have V9 : VAt CV (upd H8 pl (.lst [])) x lS lB ⟨fs, line, []⟩ := V8.same fun b o e => by
        rw [upd_ne fun q => by rw [q, hpl] at e; cases e]
        exact e
      have hpl9 : (upd H8 pl (.lst [])) pl = some (.lst []) := upd_same
      generalize upd H8 pl (.lst []) = H9 at *
      have wd9 := wd7.same sm9
      have rl := rl.mono (Same.tups sm9)
      have oF := oF.mono (Same.tups sm9)
      have j9 : (SA fun b => b = lS ∨ b = lB ∨ b = pl).J H9 := fun b m => by
        rcases m with m | m | m
        · exact V9.j b (.inl m)
        · exact V9.j b (.inr m)
        · exact ⟨_, m ▸ hpl9, rfl⟩
      have nL : ∀ b ∈ L, ¬ (SA fun b => b = lS ∨ b = lB ∨ b = pl).M b := fun b hb m => by
        obtain ⟨o, h, _⟩ := wd7.mut b hb
        rcases m with m | m | m
        · rw [m, lS7] at h; cases h
        · rw [m, lB7] at h; cases h
        · rw [m, pl7] at h; cases h
      have tS : ∀ {H10 : Hp}, (SA fun b => b = lS ∨ b = lB ∨ b = pl).T H9 H10 → (SS (At L 0)).T H7 H10 := fun {H10} t => ⟨wd7.src, (wd9.keep t nL).src, fun b o n e => t.k b o (fun m => by
        rcases m with m | m | m
        · rw [m, lS7] at e; cases e
        · rw [m, lB7] at e; cases e
        · rw [m, pl7] at e; cases e) (sm9 b o e)⟩
      have fin : ∀ {u12 u13 u14 : Option V} {H10 : Hp}, (SA fun b => b = lS ∨ b = lB ∨ b = pl).T H9 H10 → D'.nx [some (.ref (At L 0)), some (.ref (At L 1)), some (.ref (At L 2)), some vi, some vF, some vL, some (.int (z : Int)), some vl, some vh, u9', some (.ref x), some (.ref pl), u12, u13, u14, none] H10 := fun {u12 u13 u14 H10} t => kk _ H10 (t47.trans (tS t)) ⟨_, _, _, _, _, _, _, _, _, rfl⟩
      refine loop_at (S := SA fun b => b = lS ∨ b = lB ∨ b = pl) (l := lot) (gi_tupA (enc := idD) (l := lot) (gv_vd (i := 7) rfl rl)) j9
        (fun m σ' H' => ∃ u12 u13 u14 : Option V, σ' = [some (.ref (At L 0)), some (.ref (At L 1)), some (.ref (At L 2)), some vi, some vF, some vL, some (.int (z : Int)), some vl, some vh, u9', some (.ref x), some (.ref pl), u12, u13, u14, none] ∧ VAt CV H' x lS lB ⟨fs, line, (lot.take m).map (Ed.lkD (st 0).log)⟩ ∧ H' pl = some (.lst ((List.range m).map fun n : Nat => V.int (n : Int))))
        (fun H10 s10 => ⟨u12, u13, u14, rfl, V9.same s10, s10 _ _ hpl9⟩) (fun m c v σ' H10 hc t10 hq10 hv => ?_) fun σ' H10 t10 hq10 => ?_
      · obtain ⟨H0', ⟨u12', u13', u14', rfl, V10, hpl10⟩, s10⟩ := hq10
        have V10 := V10.same s10
        have hpl10 := s10 _ _ hpl10
        have hv : Rep H10 v (idD c) := hv
        refine ⟨_, fun Q q => q, fun D2 hrt2 kk2 hbk2 => ?_⟩
        have hm : m < lot.length := (List.getElem?_eq_some_iff.mp hc).1
        have hcm := List.mem_of_getElem? hc
        have kc := known c hcm
        have c12 : c < 1200 := ok.toRO.key kc
        have wd10 := wd9.keep t10 nL
        have oF := oF.mono t10.tups
        have amOk : ∀ {c}, c ∈ keys (st 0).log → OkA fs (Ed.lkD (st 0).log c) := fun h => f1 ▸ ok.toRO.am h
        have tk : (lot.take m).length = m := by rw [List.length_take]; omega
        have okV : VO ⟨fs, line, (lot.take m).map (Ed.lkD (st 0).log)⟩ := ⟨okF, okL, fun a ha => (by
          obtain ⟨b, hb, rfl⟩ := List.mem_map.mp ha
          exact amOk (known b (List.mem_of_mem_take hb))), (by show ((lot.take m).map _).length ≤ 100; rw [List.length_map, tk]; omega)⟩
        have stl : ((lot.take m).map (Ed.lkD (st 0).log)).length = m := by rw [List.length_map, tk]
        have vlot : VLot ⟨fs, line, (lot.take m).map (Ed.lkD (st 0).log)⟩ (List.range m) := ⟨by rw [List.length_range]; omega, fun j hj => (by show j < ((lot.take m).map _).length; rw [stl]; exact List.mem_range.mp hj), List.pairwise_lt_range⟩
        have okA := vwalk_ok okV vlot.2.1
        have okM := amOk kc
        have okG := puts_ok okF okA okM
        generalize eA : vwalk ⟨fs, line, (lot.take m).map (Ed.lkD (st 0).log)⟩ (List.range m) = av at *
        generalize eM : Ed.lkD (st 0).log c = mv at *
        have intR : ∀ {H11 : Hp} {l : List Nat}, Reps H11 (l.map fun n : Nat => V.int (n : Int)) (l.map fun n : Nat => PyData.int (n : Int)) := by
          intro H11 l
          induction l with
          | nil => exact .nil
          | cons y l ih => exact .cons (.int _) ih
        refine gx_set (S := S0) (Gv.ge (o := .dat (amD av)) (Gv.cast (gv_methV (m := "amounts") (args := fun _ l => [.dat (natD l)]) (pre := fun s l => VLot s l) (res := fun s l => .dat (amD (vwalk s l))) (List.range m) (gv_val (i := 10) rfl) (fun H11 t => V10.same (S0.same t)) (ga_one (gv_tupV (gv_val (i := 11) rfl) (fun H11 t => S0.same t _ _ hpl10) fun H11 t => intR)) okV vlot) (by rw [eA]))) H10 S0.r _ ?_
        rintro _ H11 a11 ⟨va, ra, rfl⟩
        have ra : Rep H11 va (amD av) := ra
        have V11 := V10.same (S0.same a11)
        have hpl11 := S0.same a11 _ _ hpl10
        have wd11 := wd10.same (S0.same a11)
        have oF := oF.mono a11.tups
        have hv := hv.mono a11.tups
        have stepG : ∀ {σ : L2.St} {H5 : Hp}, σ[2]? = some (some (.ref (At L 2))) → σ[12]? = some (some v) → Wd C Pt Ph L st kp H5 → Rep H5 v (idD c) → Gv S0 (tDGet (tDGet (tOp (rIxL K) (tVar 2) (tC (.int 0))) (tC (.str "steps"))) (tVar 12)) σ H5 (.dat (amD mv)) := fun {σ H5} e2 e12 w5 r5 =>
          gv_dgetT (stG (j := 0) (by decide) w5 (own0 e2 w5)) (gv_vd (i := 12) e12 r5) (fun H9 t => ((w5.same (S0.same t)).oa 0 (by decide)).choose_spec.choose_spec.2.2.2.1) ok.log c12 (by rw [lkD_eq kc, eM])
        dsimp only
        refine gx_set (S := S0) (Gv.ge (o := .dat (recD (recAt fs (puts fs av mv)))) (gv_call (ι := List Kd × List (List Int)) (fs, puts fs av mv) (ga_two (gv_vd (i := 4) rfl oF) (gv_call (ι := List Kd × List (List Int) × List (List Int)) (fs, av, mv) (ga_cons (gv_vd (i := 4) rfl oF) (ga_two (gv_vd (i := 13) rfl ra) (stepG rfl rfl wd11 hv))) ⟨okF, okA, okM⟩)) ⟨okF, okG⟩)) H11 S0.r _ ?_
        rintro _ H12 a12 ⟨vg, rg, rfl⟩
        have rg : Rep H12 vg (recD (recAt fs (puts fs av mv))) := rg
        have V12 := V11.same (S0.same a12)
        have hpl12 := S0.same a12 _ _ hpl11
        have wd12 := wd11.same (S0.same a12)
        have hv := hv.mono a12.tups
        have t12 : (SA fun b => b = lS ∨ b = lB ∨ b = pl).T H10 H12 := .of_same t10.j' (S0.same (a11.trans a12))
        refine raw_ifR (S := S0) (b := decide (none ∈ recAt fs (puts fs av mv))) (gt_test (gv_op (r := rInTD K false) (o := .dat .none) (p := .dat (recD (recAt fs (puts fs av mv)))) (q := .val (.bl (decide (none ∈ recAt fs (puts fs av mv))))) (gv_c .non) (gv_vd (i := 14) rfl rg) (rg_inTD (l := recAt fs (puts fs av mv)) (enc := oD) (neg := false) (c := decide (none ∈ recAt fs (puts fs av mv))) (fun a _ => by cases a <;> rfl) rfl ?_))) trivial (fun e H13 a13 N => ?_) fun e H13 a13 => ?_
        · rw [decide_eq_true_iff]
          exact ⟨fun h => ⟨none, h, rfl⟩, fun ⟨a, ha, e⟩ => by cases a with
            | none => exact ha
            | some i => cases e⟩
        · show D2.bk _ _
          rw [hbk2]
          exact fin (t10.trans (t12.trans (.of_same t12.j' (S0.same a13))))
        · have e := of_decide_eq_false e
          obtain ⟨e1, e2, e3⟩ := rec_all (fs := fs) (g := puts fs av mv) okG.1 fun o ho q => e (q ▸ ho)
          have rg := rg.mono a13.tups
          rw [e1, recD_some] at rg
          have V13 := V12.same (S0.same a13)
          have hpl13 := S0.same a13 _ _ hpl12
          have wd13 := wd12.same (S0.same a13)
          have hv := hv.mono a13.tups
          have t13 := t12.trans (.of_same t12.j' (S0.same a13))
          have V13' := V13
          obtain ⟨dx', vF', vA', xs, ys, h1, _⟩ := V13'
          refine ⟨.ref pl, rfl, tyl hpl13, .ref x, rfl, x, dx', _, rfl, h1, rfl, ?_⟩
          refine gv_tupV (S := S0) (ds := (List.range m).map fun n : Nat => PyData.int (n : Int)) (gv_val (i := 11) (by rfl)) (fun H14 t => S0.same t _ _ hpl13) (fun H14 t => intR) H13 S0.r _ fun vt H14 a14 rt => ?_
          have s14 := S0.same a14
          have rt : Rep H14 vt (natD (List.range m)) := rt
          refine ⟨vg, rfl, x, lS, lB, _, vt, vg, List.range m, recI fs (puts fs av mv), rfl, V13.same s14, okV, (by show ((lot.take m).map _).length < 90; rw [stl]; omega), rt, vlot, rg.mono a14.tups, e2, fun H15 T15 V15 => ?_⟩
          have e5 : stps fs av (amOf fs (recI fs (puts fs av mv))) = mv := by rw [e3]; exact stps_puts okA.1 okM.1 okA.2 okM.2
          have V15 : VAt CV H15 x lS lB ⟨fs, line, (lot.take m).map (Ed.lkD (st 0).log) ++ [stps fs (vwalk ⟨fs, line, (lot.take m).map (Ed.lkD (st 0).log)⟩ (List.range m)) (amOf fs (recI fs (puts fs av mv)))]⟩ := V15
          rw [eA, e5] at V15
          have e6 : (lot.take m).map (Ed.lkD (st 0).log) ++ [mv] = (lot.take (m + 1)).map (Ed.lkD (st 0).log) := by
            rw [List.take_add_one, hc, List.map_append, ← eM]
            rfl
          rw [e6] at V15
          have hpl15 := T15.k pl _ (fun q => q.elim (fun q => np2 q.symm) fun q => np3 q.symm) (s14 _ _ hpl13)
          have t14 := t13.trans (.of_same t13.j' s14)
          have t15 := t14.trans (SA.mono T15 (fun b q => (q.elim .inl fun q => .inr (.inl q) : b = lS ∨ b = lB ∨ b = pl)) t14.j')
          refine ⟨pl, _, _, rfl, rfl, hpl15, small (by rw [List.length_map, List.length_range]; omega), ?_⟩
          have tp : (SA fun b => b = pl).T H15 (upd H15 pl (.lst ((List.range m).map (fun n : Nat => V.int (n : Int)) ++ [V.int (((lot.take m).map (Ed.lkD (st 0).log)).length : Int)]))) := SA.put (fun b q => ⟨_, (show b = pl from q) ▸ hpl15, rfl⟩) rfl rfl
          have t16 := t15.trans (SA.mono tp (fun b q => (.inr (.inr q) : b = lS ∨ b = lB ∨ b = pl)) t15.j')
          have V16 := V15.to tp np1 np2 np3
          have hpl16 : (upd H15 pl (.lst ((List.range m).map (fun n : Nat => V.int (n : Int)) ++ [V.int (((lot.take m).map (Ed.lkD (st 0).log)).length : Int)]))) pl = some (.lst ((List.range (m + 1)).map fun n : Nat => V.int (n : Int))) := by
            rw [upd_same, stl, List.range_succ, List.map_append]
            rfl
          have hv := ((hv.mono a14.tups).mono T15.tups).mono tp.tups
          generalize upd H15 pl (.lst ((List.range m).map (fun n : Nat => V.int (n : Int)) ++ [V.int (((lot.take m).map (Ed.lkD (st 0).log)).length : Int)])) = H16 at *
          have wd16 := wd10.keep t16 nL
          have tk1 : (lot.take (m + 1)).length = m + 1 := by rw [List.length_take]; omega
          have okV1 : VO ⟨fs, line, (lot.take (m + 1)).map (Ed.lkD (st 0).log)⟩ := ⟨okF, okL, fun a ha => (by
            obtain ⟨b, hb, rfl⟩ := List.mem_map.mp ha
            exact amOk (known b (List.mem_of_mem_take hb))), (by show ((lot.take (m + 1)).map _).length ≤ 100; rw [List.length_map, tk1]; omega)⟩
          have gd : ((lot.take (m + 1)).map (Ed.lkD (st 0).log)).getD m [] = mv := by
            rw [← e6, List.getD_eq_getElem?_getD, List.getElem?_append_right (by rw [stl]; exact Nat.le_refl _), stl, Nat.sub_self]
            rfl
          refine raw_if (S := S0) (b := false) (GvT.cast (gt_test (gv_op (r := rNeD K) (o := .dat (amD mv)) (p := .dat (amD mv)) (Gv.cast (gv_methV (ι := Nat) (m := "steps_of") (args := fun _ j => [.val (.int (j : Int))]) (pre := fun s j => j < s.st.length) (res := fun s j => .dat (amD (s.st.getD j []))) m (gv_val (i := 10) rfl) (fun H17 t => V16.same (S0.same t)) (ga_one (gv_ixQ (K := K) (i := m) (j := (m : Int)) (o := .val (.int (m : Int))) (gv_val (i := 11) rfl) (Gv.int_cast (gv_op (gv_lenV (gv_val (i := 11) rfl) fun H17 t => S0.same t _ _ hpl16) gv_int rg_I0) (by rw [List.length_map, List.length_range]; omega)) rfl (fun H17 t => SqL.of (S0.same t _ _ hpl16)) (by rw [List.getElem?_map, List.getElem?_range (by omega)]; rfl) rfl)) okV1 (by show m < ((lot.take (m + 1)).map _).length; rw [List.length_map, tk1]; omega)) (by rw [gd])) (stepG rfl rfl wd16 hv) (rg_neD (c := true) pl_am pl_am ⟨fun _ => rfl, fun _ => rfl⟩))) rfl) trivial (fun e => nomatch e) fun _ H17 a17 => ?_
          have s17 := S0.same a17
          exact kk2 _ H17 (t16.trans (.of_same t16.j' s17)) ⟨_, _, _, rfl, V16.same s17, s17 _ _ hpl16⟩
      · obtain ⟨u12', u13', u14', rfl, _⟩ := hq10
        exact fin t10
  · obtain ⟨u6, u7, u8, u9, u10, u11, u12, u13, u14, rfl⟩ := hq'
    exact k H4


end
end Ed

set_option maxHeartbeats 1000000
/-! EdLc: a comprehension of which the heap tells. -/
namespace Ed
open PySem PySem.Spec PyProof.Rows L2 LamX NdefX
section
variable {S : Sys} {H H' H1 H2 : Hp} {σ : L2.St} {te ta tb tc tl : TE} {tt : TT} {wi : TI} {α : Type} {l : List α} {Y : α → V → Hp → Prop}
/-- Inv tells the list after so many turns, and goes on to hold -/
theorem ge_lcH {vs : List Nat} {i0 : Nat} {Inv : Nat → List V → Hp → Prop} (hw : GvI S wi σ H fun J H1 => WkL S J l Y H1) (hn : l.length ≤ 100000)
    (mono : ∀ n xs H1 H2, S.T H1 H2 → Inv n xs H1 → Inv n xs H2)
    (put : ∀ n xs H' D u ys, H D = none → H' D = some (.lst u) → Inv n xs H' → Inv n xs (upd H' D (.lst ys)))
    (h0 : ∀ H1 p, S.T H H1 → H p = none → H1 p = some (.lst []) → Inv 0 [] H1) (hlen : ∀ i xs H', Inv i xs H' → xs.length = i)
    (hv : ∀ x : V, wipe ((wipe σ vs).set i0 (some x)) vs = wipe σ vs)
    (turn : ∀ i z x H1 xs, l[i]? = some z → S.T H H1 → Y z x H1 → Inv i xs H1 → Ge S te ((wipe σ vs).set i0 (some x)) H1 fun v H' => Inv (i + 1) (xs ++ [v]) H') :
    Ge S (tLc wi (gName i0) tYes te vs) σ H fun v H' => ∃ p xs, v = .ref p ∧ H p = none ∧ H' p = some (.lst xs) ∧ Inv l.length xs H' := fun H1 a Q k => by
  refine hw H1 a _ fun J H2 a2 w D hD => ?_
  have nD : ¬ S.M D := S.notM a2.j' hD
  have aD : S.T H2 (upd H2 D (.lst [])) := .new a2.j' hD
  refine ⟨fun i m H' => m = l.length - i ∧ i ≤ l.length ∧ ∃ xs, S.T H2 H' ∧ H' D = some (.lst xs) ∧ Inv i xs H', ⟨l.length, rfl, Nat.zero_le _, [], aD, upd_same, h0 _ D ((a.trans a2).trans aD) ((a.trans a2).free hD) upd_same⟩, ?_⟩
  rintro i m H3 ⟨rfl, hi, xs, a3, hx, iv⟩
  by_cases hlt : i < l.length
  · refine .inr ⟨w.go i H3 hlt a3, fun H' => ∃ ys, S.T H2 H' ∧ H' D = some (.lst ys) ∧ Inv (i + 1) ys H', fun H' ⟨ys, h1, h2, h4⟩ => ⟨l.length - (i + 1), by omega, rfl, hlt, ys, h1, h2, h4⟩, fun x H4 yy => ?_⟩
    obtain ⟨a4, s4, z, hz, hy⟩ := w.yld i x H3 H4 hlt a3 yy
    refine ⟨hv x, ?_⟩
    refine turn i z x H4 xs hz ((a.trans a2).trans (a3.trans a4)) hy (mono _ _ _ _ a4 iv) H4 a4.fin _ fun v H6 a6 iv6 => ?_
    have a46 := a4.trans a6
    have e6 : H6 D = some (.lst xs) := a46.k D _ nD hx
    refine ⟨xs, e6, Nat.lt_of_le_of_lt (by rw [hlen i xs _ iv]; exact hi) (Nat.lt_of_le_of_lt hn (by decide)), xs ++ [v], (a3.trans a46).mut hD, upd_same, ?_⟩
    exact put _ _ H6 D xs (xs ++ [v]) ((a.trans a2).free hD) e6 iv6
  · have e : i = l.length := by omega
    subst e
    exact .inl ⟨w.stop H3 a3, k _ H3 (a2.trans a3) ⟨D, xs, rfl, a.free (a2.free hD), hx, iv⟩⟩
theorem tups_put {D : Addr} {u ys : List V} (e : H D = some (.lst u)) : Tups H (upd H D (.lst ys)) := by
  refine ⟨fun b ys' e' => ?_, fun b o u' e' => ?_⟩
  · rw [upd_ne fun z => by rw [z, e] at e'; cases e']
    exact e'
  · rw [upd_ne fun z => by rw [z, e] at e'; cases e']
    exact e'
theorem RAt.put {C D r dS dH : Addr} {s : RSt} {u ys : List V} (h : RAt C H r dS dH s) (e : H D = some (.lst u)) : RAt C (upd H D (.lst ys)) r dS dH s := by
  have tp := tups_put (ys := ys) e
  obtain ⟨dx, vF, vA, h1, h2, h3, ⟨kvs, h4, a4⟩, ⟨kvs', h5, a5⟩⟩ := h
  refine ⟨dx, vF, vA, ?_, h2.mono tp, h3.mono tp, ⟨kvs, ?_, a4.mono tp⟩, ⟨kvs', ?_, a5.mono tp⟩⟩
  · rw [upd_ne fun z => by rw [z, e] at h1; cases h1]; exact h1
  · rw [upd_ne fun z => by rw [z, e] at h4; cases h4]; exact h4
  · rw [upd_ne fun z => by rw [z, e] at h5; cases h5]; exact h5
theorem OAt.put {D r dS dH : Addr} {s : RSt} {u ys : List V} (h : OAt H r dS dH s) (e : H D = some (.lst u)) : OAt (upd H D (.lst ys)) r dS dH s := by
  have tp := tups_put (ys := ys) e
  obtain ⟨vF, vA, h1, h2, h3, ⟨kvs, h4, a4⟩, ⟨kvs', h5, a5⟩⟩ := h
  refine ⟨vF, vA, ?_, h2.mono tp, h3.mono tp, ⟨kvs, ?_, a4.mono tp⟩, ⟨kvs', ?_, a5.mono tp⟩⟩
  · rw [upd_ne fun z => by rw [z, e] at h1; cases h1]; exact h1
  · rw [upd_ne fun z => by rw [z, e] at h4; cases h4]; exact h4
  · rw [upd_ne fun z => by rw [z, e] at h5; cases h5]; exact h5
theorem at_app {q t : List Addr} {k : Nat} (h : k < q.length) : At (q ++ t) k = At q k := by
  show (q ++ t).getD k 0 = q.getD k 0
  rw [List.getD_eq_getElem?_getD, List.getD_eq_getElem?_getD, List.getElem?_append_left h]
theorem at_app2 {q t : List Addr} {k : Nat} : At (q ++ t) (q.length + k) = At t k := by
  show (q ++ t).getD (q.length + k) 0 = t.getD k 0
  rw [List.getD_eq_getElem?_getD, List.getD_eq_getElem?_getD, List.getElem?_append_right (by omega)]
  congr 2
  omega
/-- so many things of three places each, all new since H -/
structure Trip (A : Hp → Nat → Addr → Addr → Addr → Prop) (H : Hp) (n : Nat) (xs : List V) (q : List Addr) (H' : Hp) : Prop where
  len : q.length = 3 * n
  nd : q.Nodup
  xs : xs = (List.range n).map fun i => .ref (At q (3 * i))
  at' : ∀ i, i < n → A H' i (At q (3 * i)) (At q (3 * i + 1)) (At q (3 * i + 2))
  new : ∀ x ∈ q, H x = none
theorem at_ix {q : List Addr} {x : Addr} (h : x ∈ q) : ∃ k, k < q.length ∧ x = At q k := by
  obtain ⟨k, hk, e⟩ := List.mem_iff_getElem.mp h
  refine ⟨k, hk, ?_⟩
  show x = q.getD k 0
  rw [List.getD_eq_getElem?_getD, List.getElem?_eq_getElem hk]
  exact e.symm
section
variable {A : Hp → Nat → Addr → Addr → Addr → Prop} {n : Nat} {xs : List V} {q : List Addr}
theorem Trip.mem (t : Trip A H n xs q H') {x : Addr} (h : x ∈ q) : ∃ i, i < n ∧ (x = At q (3 * i) ∨ x = At q (3 * i + 1) ∨ x = At q (3 * i + 2)) := by
  obtain ⟨k, hk, e⟩ := at_ix h
  have := t.len
  have : k = 3 * (k / 3) ∨ k = 3 * (k / 3) + 1 ∨ k = 3 * (k / 3) + 2 := by omega
  refine ⟨k / 3, by omega, ?_⟩
  rcases this with z | z | z
  · rw [← z]; exact .inl e
  · rw [← z]; exact .inr (.inl e)
  · rw [← z]; exact .inr (.inr e)
theorem Trip.live (t : Trip A H n xs q H') (hA : ∀ {H' i r a b}, A H' i r a b → (∃ o, H' r = some o) ∧ (∃ o, H' a = some o) ∧ ∃ o, H' b = some o) {x : Addr} (h : x ∈ q) : ∃ o, H' x = some o := by
  obtain ⟨i, hi, e⟩ := t.mem h
  have := hA (t.at' i hi)
  rcases e with rfl | rfl | rfl
  · exact this.1
  · exact this.2.1
  · exact this.2.2
theorem Trip.to (t : Trip A H n xs q H1) (k : ∀ i r a b, A H1 i r a b → (∀ x, x = r ∨ x = a ∨ x = b → x ∈ q) → A H2 i r a b) : Trip A H n xs q H2 := by
  refine ⟨t.len, t.nd, t.xs, fun i hi => k _ _ _ _ (t.at' i hi) fun x hx => ?_, t.new⟩
  have := t.len
  rcases hx with rfl | rfl | rfl
  · exact at_mem (by omega)
  · exact at_mem (by omega)
  · exact at_mem (by omega)
theorem Trip.snoc (t : Trip A H n xs q H2) (hA : ∀ {H' i r a b}, A H' i r a b → (∃ o, H' r = some o) ∧ (∃ o, H' a = some o) ∧ ∃ o, H' b = some o) (t1 : Trip A H n xs q H1) {r a b : Addr} (h : A H2 n r a b) (n1 : r ≠ a) (n2 : r ≠ b) (n3 : a ≠ b)
    (f1 : H1 r = none) (f2 : H1 a = none) (f3 : H1 b = none) (g1 : H r = none) (g2 : H a = none) (g3 : H b = none) : Trip A H (n + 1) (xs ++ [.ref r]) (q ++ [r, a, b]) H2 := by
  have l := t.len
  have e0 : At (q ++ [r, a, b]) (3 * n) = r := by rw [← l]; exact at_app2 (k := 0)
  have e1 : At (q ++ [r, a, b]) (3 * n + 1) = a := by rw [← l]; exact at_app2 (k := 1)
  have e2 : At (q ++ [r, a, b]) (3 * n + 2) = b := by rw [← l]; exact at_app2 (k := 2)
  have old : ∀ x ∈ q, ∃ o, H1 x = some o := fun x hx => t1.live hA hx
  refine ⟨by rw [List.length_append, l]; show 3 * n + 3 = _; omega, ?_, ?_, fun i hi => ?_, fun x hx => ?_⟩
  · rw [List.nodup_append]
    refine ⟨t.nd, by simp [n1, n2, n3], fun x hx y hy e => ?_⟩
    obtain ⟨o, ho⟩ := old x hx
    simp at hy
    rcases hy with rfl | rfl | rfl
    · rw [e, f1] at ho; cases ho
    · rw [e, f2] at ho; cases ho
    · rw [e, f3] at ho; cases ho
  · rw [List.range_succ, List.map_append, t.xs]
    congr 1
    · refine List.map_congr_left fun i hi => ?_
      have := List.mem_range.mp hi
      rw [at_app (by omega)]
    · rw [List.map_cons, List.map_nil, e0]
  · by_cases z : i < n
    · rw [at_app (by omega), at_app (by omega), at_app (by omega)]
      exact t.at' i z
    · have : i = n := by omega
      subst this
      rw [e0, e1, e2]
      exact h
  · rcases List.mem_append.mp hx with hx | hx
    · exact t.new x hx
    · simp at hx
      rcases hx with rfl | rfl | rfl
      · exact g1
      · exact g2
      · exact g3
end
end
end Ed

set_option maxHeartbeats 1000000
/-! EdMk: the world as it is made. -/
namespace Ed
open PySem PySem.Spec PyProof.Rows L2 LamX NdefX
section
variable {C Pt Ph src lr lo lk : Addr} {H4 H5 H6 H7 : Hp} {fs : List Kd} {line : List Int} {xr xo : List V} {q1 q2 : List Addr}
theorem mk_nd {a b : List Addr} (ha : a.Nodup) (hb : b.Nodup) (h : ∀ x ∈ a, x ∉ b) : (a ++ b).Nodup := by
  rw [List.nodup_append]
  exact ⟨ha, hb, fun x hx y hy e => h x hx (e ▸ hy)⟩
theorem mk_wd (so : SrcOk src H4) (t1 : TabS H4 Pt qT) (t2 : TabS H4 Ph qH) (nPP : Pt ≠ Ph) (np1 : Pt ≠ src) (np2 : Ph ≠ src) (hlr : H4 lr = none) (hlr5 : H5 lr = some (.lst xr)) (tr1 : Trip (fun H' i r a b => RAt C H' r a b ⟨i, fs, line, [], 0, []⟩) H4 3 xr q1 H5) (s5 : Same H4 H5)
    (hlo : H5 lo = none) (hlo6 : H6 lo = some (.lst xo)) (tr2 : Trip (fun H' i r a b => OAt H' r a b ⟨i, fs, line, [], 0, []⟩) H5 3 xo q2 H6) (s6 : Same H5 H6) (hlk : H6 lk = none) (s7 : Same (upd H6 lk (.lst [])) H7) :
    Wd C Pt Ph ([src, lr, lo, lk, Pt, Ph] ++ (q1 ++ q2)) (fun i => ⟨i, fs, line, [], 0, []⟩) [] H7 := by
  have s67 : Same H6 H7 := fun b o e => s7 b o (by rw [upd_ne fun z => by rw [z, hlk] at e; cases e]; exact e)
  have l1 := tr1.len
  have l2 := tr2.len
  have r1 : ∀ x ∈ q1, H4 x = none ∧ ∃ o, H5 x = some o ∧ ∀ xs, o ≠ .lst xs := fun x hx => ⟨tr1.new x hx, by
    obtain ⟨i, hi, e⟩ := tr1.mem hx
    obtain ⟨_, _, _, h1, _, _, ⟨_, h2, _⟩, ⟨_, h3, _⟩⟩ := tr1.at' i hi
    rcases e with rfl | rfl | rfl
    · exact ⟨_, h1, fun _ z => by cases z⟩
    · exact ⟨_, h2, fun _ z => by cases z⟩
    · exact ⟨_, h3, fun _ z => by cases z⟩⟩
  have r2 : ∀ x ∈ q2, H5 x = none ∧ ∃ o, H6 x = some o ∧ ∀ xs, o ≠ .lst xs := fun x hx => ⟨tr2.new x hx, by
    obtain ⟨i, hi, e⟩ := tr2.mem hx
    obtain ⟨_, _, h1, _, _, ⟨_, h2, _⟩, ⟨_, h3, _⟩⟩ := tr2.at' i hi
    rcases e with rfl | rfl | rfl
    · exact ⟨_, h1, fun _ z => by cases z⟩
    · exact ⟨_, h2, fun _ z => by cases z⟩
    · exact ⟨_, h3, fun _ z => by cases z⟩⟩
  obtain ⟨sb, sm, hsrc, sq⟩ := id so
  obtain ⟨p1, hp1, _⟩ := id t1
  obtain ⟨p2, hp2, _⟩ := id t2
  -- what stands is not what is new
  have no4 : ∀ {x y : Addr} {o : HO}, H4 x = some o → H4 y = none → x ≠ y := fun h g e => by rw [e, g] at h; cases h
  have no5 : ∀ {x y : Addr} {o : HO}, H5 x = some o → H5 y = none → x ≠ y := fun h g e => by rw [e, g] at h; cases h
  have no6 : ∀ {x y : Addr} {o : HO}, H6 x = some o → H6 y = none → x ≠ y := fun h g e => by rw [e, g] at h; cases h
  have hsrc5 := s5 _ _ hsrc
  have hp15 := s5 _ _ hp1
  have hp25 := s5 _ _ hp2
  have hsrc6 := s6 _ _ hsrc5
  have hp16 := s6 _ _ hp15
  have hp26 := s6 _ _ hp25
  have hlr6 := s6 _ _ hlr5
  have nd6 : [src, lr, lo, lk, Pt, Ph].Nodup := by
    have e1 := no4 hsrc hlr
    have e2 := no5 hsrc5 hlo
    have e3 := no6 hsrc6 hlk
    have e4 := no5 hlr5 hlo
    have e5 := no6 hlr6 hlk
    have e6 := (no4 hp1 hlr).symm
    have e7 := (no4 hp2 hlr).symm
    have e8 := no6 hlo6 hlk
    have e9 := (no5 hp15 hlo).symm
    have e10 := (no5 hp25 hlo).symm
    have e11 := (no6 hp16 hlk).symm
    have e12 := (no6 hp26 hlk).symm
    simp [e1, e2, e3, e4, e5, e6, e7, e8, e9, e10, e11, e12, nPP, np1.symm, np2.symm]
  have nd12 : (q1 ++ q2).Nodup := mk_nd tr1.nd tr2.nd fun x h1 h2 => by
    obtain ⟨_, o, h, _⟩ := r1 x h1
    exact no5 h (r2 x h2).1 rfl
  have nd : ([src, lr, lo, lk, Pt, Ph] ++ (q1 ++ q2)).Nodup := mk_nd nd6 nd12 fun x h1 h2 => by
    rcases List.mem_append.mp h2 with h2 | h2
    · obtain ⟨g, o, h, nl⟩ := r1 x h2
      simp at h1
      rcases h1 with rfl | rfl | rfl | rfl | rfl | rfl
      · exact no4 hsrc g rfl
      · rw [hlr5] at h; exact nl _ (Option.some.inj h).symm
      · exact no5 h hlo rfl
      · exact no6 (s6 _ _ h) hlk rfl
      · exact no4 hp1 g rfl
      · exact no4 hp2 g rfl
    · obtain ⟨g, o, h, nl⟩ := r2 x h2
      simp at h1
      rcases h1 with rfl | rfl | rfl | rfl | rfl | rfl
      · exact no5 hsrc5 g rfl
      · exact no5 hlr5 g rfl
      · rw [hlo6] at h; exact nl _ (Option.some.inj h).symm
      · exact no6 h hlk rfl
      · exact no5 hp15 g rfl
      · exact no5 hp25 g rfl
  have a1 : ∀ k, k < 9 → At ([src, lr, lo, lk, Pt, Ph] ++ (q1 ++ q2)) (6 + k) = At q1 k := fun k hk => (at_app2 (q := [src, lr, lo, lk, Pt, Ph]) (k := k)).trans (at_app (by omega))
  have a2 : ∀ k, At ([src, lr, lo, lk, Pt, Ph] ++ (q1 ++ q2)) (15 + k) = At q2 k := fun k => by
    have e := at_app2 (q := [src, lr, lo, lk, Pt, Ph]) (t := q1 ++ q2) (k := 9 + k)
    have e2 := at_app2 (q := q1) (t := q2) (k := k)
    rw [l1] at e2
    have e3 : [src, lr, lo, lk, Pt, Ph].length + (9 + k) = 15 + k := by show 6 + (9 + k) = 15 + k; omega
    rw [e3] at e
    exact e.trans e2
  have s47 := (s5.trans s6).trans s67
  refine ⟨by rw [List.length_append, List.length_append, l1, l2]; rfl, nd, ⟨sb, sm, s47 _ _ hsrc, sq⟩, ?_, ?_, ⟨[], s7 _ _ upd_same, .nil⟩, rfl, rfl, TabS.to (S := S0) t1 (.of_same trivial s47) fun m => m, TabS.to (S := S0) t2 (.of_same trivial s47) fun m => m, fun i hi => ?_, fun i hi => ?_⟩
  · rw [a1 0 (by decide), a1 3 (by decide), a1 6 (by decide)]
    have := s67 _ _ hlr6
    rw [tr1.xs] at this
    exact this
  · rw [a2 0, a2 3, a2 6]
    have := s67 _ _ hlo6
    rw [tr2.xs] at this
    exact this
  · have e1 : 6 + 3 * i = 6 + (3 * i) := rfl
    have e2 : 7 + 3 * i = 6 + (3 * i + 1) := by omega
    have e3 : 8 + 3 * i = 6 + (3 * i + 2) := by omega
    rw [e2, e3, a1 _ (by omega), a1 _ (by omega), a1 _ (by omega)]
    exact ((tr1.at' i hi).same s6).same s67
  · have e2 : 16 + 3 * i = 15 + (3 * i + 1) := by omega
    have e3 : 17 + 3 * i = 15 + (3 * i + 2) := by omega
    rw [e2, e3, a2, a2, a2]
    exact (tr2.at' i hi).same s67
end
end Ed

set_option maxHeartbeats 1000000
/-! EdD17: the law. -/
namespace Ed
open PySem PySem.Spec PyProof.Rows L2 LamX NdefX
section
variable {P : Program} {w : World} {K : PySem.W.Frag} {mg : Str → Option Value} {base : Heap}
open LamX NdefX
variable {C CV Pt Ph : Addr}
theorem for_rng {S : Sys} {H : Hp} {σ : L2.St} {te : TE} {g : TG} {tu : TS} {D : Ends} {Pn : Nat → Prop} (h : Ge S te σ H fun v _ => ∃ n : Nat, v = .int (n : Int) ∧ Pn n) (j : S.J H) (k : ∀ n H1, S.T H H1 → Pn n → tFor (iRng1 (tCons (tC (.int (n : Int))) tNil)) g tu D σ H1) : tFor (iRng1 (tCons te tNil)) g tu D σ H := h H (.refl j) _ fun v H1 a ⟨n, e, p⟩ => by
  subst e
  exact k n H1 a p
theorem asg3 {H : Hp} {σ : L2.St} {te1 te2 : TE} {tu : TS} {D : Ends} {R1 : V → Hp → Prop} {R2 : Hp → V → Hp → Prop} (h1 : Ge S0 te1 σ H R1) (h2 : ∀ v1 H1, Same H H1 → R1 v1 H1 → Ge S0 te2 σ H1 (R2 H1))
    (k : ∀ v1 v2 H1 H2 H3 p, Same H H1 → Same H1 H2 → R1 v1 H1 → R2 H1 v2 H2 → H2 p = none → Same (upd H2 p (.lst [])) H3 → tu D (((σ.set 5 (some v1)).set 6 (some v2)).set 7 (some (.ref p))) H3) :
    tSeq (tAsg (tTup (tCons te1 (tCons te2 (tCons (tLst tNil) tNil)))) (gTup K 3 (gCons (gName 5) (gCons (gName 6) (gCons (gName 7) gNil))))) tu D σ H :=
  h1 H S0.r _ fun v1 H1 a1 r1 => h2 v1 H1 (S0.same a1) r1 H1 S0.r _ fun v2 H2 a2 r2 => ⟨Nat.zero_le _, fun p hp => ⟨small64 (by show 3 < 64; decide), fun t ht => ⟨t, [v1, v2, .ref p], rfl, .inl (.inl upd_same), rfl, v1, _, rfl, v2, _, rfl, .ref p, [], rfl, rfl, k v1 v2 H1 H2 _ p (S0.same a1) (S0.same a2) r1 r2 hp (S0.same (Sys.T.new (S := S0) trivial ht))⟩⟩⟩
def sp_law (K : PySem.W.Frag) (Pt Ph : Addr) : Sp := fun vs H Q _ => ∃ (a : Addr) (ns : List Int), vs = [.ref a] ∧ SqL K H a (ns.map V.int) ∧ ns.length ≤ 63 ∧ TabS H Pt qT ∧ TabS H Ph qH ∧ Pt ≠ Ph ∧ ∀ H', Q (.bl true) H'

theorem sc_law : FnScope ["_law_script", "_law_source", "_law_sorts", "_law_line", "_law_words", "_law_replicas", "_law_owns", "_law_kept", "_law_turn", "_law_word", "_law_at"] ["_law_script"] (defScope s_law) := ⟨rfl, rfl, rfl, by decide +kernel, rfl, by decide +kernel, by decide +kernel⟩
theorem fn_ofD {x : Str} {st : Stmt} {N ps : List Str} {k : Nat} {sp : Sp} {f : Addr} {fd : FuncData} (F : FunD K x x (defArgs st) (defBody st) (defScope st) [] [] f fd) (S : FnScope N ps (defScope st)) (len : ∀ vs H Q E, sp vs H Q E → vs.length = ps.length)
    (hbody : ∀ (f : Addr) (cdv : Value) (A : Around) (outer : List Env) (s : Shared) (H : Hp) (vs : List V) (Q : VK) (E : XK), Room k (A.deeper (envOfC x (defScope st) s.heap.objs.size f cdv)) → sp vs H Q E →
      ∃ t, PSs (cxOf CX0 P w K mg base N x (defScope st) f cdv A outer s H E).nox (defBody st) t ∧ t { nx := fun _ H' => Q .non H', rt := Q } (L2.start N vs) H) : FnOk P w K mg base CX0 (k + 1) f fd ps sp :=
  F.ok S len fun cdv A outer s H vs Q E hr hsp => by
    obtain ⟨t, h, q⟩ := hbody f cdv A outer s H vs Q E hr hsp
    exact ⟨t, h.nox, q⟩
theorem ok_law {f0 : Addr} {fd0 : FuncData} (T : Tx mg) (F : FunD K "law" "law" (defArgs s_law) (defBody s_law) (defScope s_law) [] [] f0 fd0) (G_law_pool : Gd P w K mg base "_law_pool" 1 (sp_law_pool K)) (G_law_v_fields : Gd P w K mg base "_law_v_fields" 5 sp_law_v_fields) (G_law_v_some_record : Gd P w K mg base "_law_v_some_record" 2 sp_law_v_some_record) (G_law_v_replica : Gd P w K mg base "_law_v_replica" 1 sp_law_v_replica) (G_law_take : Gd P w K mg base "_law_take" 1 sp_law_take) (G_law_turn_right : Gd P w K mg base "_law_turn_right" 11 (sp_law_turn_right C Pt Ph)) (G_law_is_like : Gd P w K mg base "_law_is_like" 11 (sp_law_is_like C)) (G_law_one_record : Gd P w K mg base "_law_one_record" 12 (sp_law_one_record C Pt Ph)) (G_law_all_met : Gd P w K mg base "_law_all_met" 11 (sp_law_all_met C Pt Ph)) (M_Replica : Mc P w K mg base "Replica" C 10 (sp_Replica_init C))  : FnOk P w K mg base CX0 13 f0 fd0 ["_law_script"] (sp_law K Pt Ph) := fn_ofD (N := ["_law_script", "_law_source", "_law_sorts", "_law_line", "_law_words", "_law_replicas", "_law_owns", "_law_kept", "_law_turn", "_law_word", "_law_at"]) F sc_law (fun vs H Q E h => by
  obtain ⟨a, ns, rfl, _⟩ := h
  rfl) fun f cdv A outer s0 H vs Q E hr hsp => by
  obtain ⟨a, ns, rfl, hs, l63, tPt, tPh, nPP, k⟩ := hsp
  refine ⟨_, (pss_cons (psn 1 sc_law.nd (pe_gd G_law_pool hr (pa_cons (pv 0) (pa_cons pe_int pa_nil))))
    (pss_cons (psn 2 sc_law.nd (pe_gd G_law_v_fields hr (pa_cons (pv 1) (pa_cons pe_int (pa_cons pe_int pa_nil)))))
    (pss_cons (psn 3 sc_law.nd (pe_gd G_law_v_some_record hr (pa_cons (pv 1) (pa_cons (pv 2) pa_nil))))
    (pss_cons (psn 4 sc_law.nd (pe_lst (pa_cons pe_str (pa_cons pe_str (pa_cons pe_str pa_nil)))))
    (pss_cons (ps_asg (pe_tup (pa_cons (pe_lc (own := [("_law_word", 9)]) (g := (gName 9)) (tt := tYes) (te := (tMake _ _ [] E0 (tCons (tVar 9) (tCons (tVar 2) (tCons (tVar 3) tNil))))) rfl sc_law.nd (pi_list (pv 4)) (blkOk_by (N := ["_law_script", "_law_source", "_law_sorts", "_law_line", "_law_words", "_law_replicas", "_law_owns", "_law_kept", "_law_turn", "_law_word", "_law_at"]) (sc := defScope s_law) (by decide +kernel)) (fun _ _ _ _ _ => (pgn 9 sc_law.nd)) (fun _ _ _ _ _ => pts_nil) (fun _ _ _ _ _ => (pe_mc M_Replica hr (pa_cons (pv 9) (pa_cons (pv 2) (pa_cons (pv 3) pa_nil)))))) (pa_cons (pe_lc (own := [("_law_word", 9)]) (g := (gName 9)) (tt := tYes) (te := (tCall _ [] E0 (tCons (tVar 9) (tCons (tVar 2) (tCons (tVar 3) tNil))))) rfl sc_law.nd (pi_list (pv 4)) (blkOk_by (N := ["_law_script", "_law_source", "_law_sorts", "_law_line", "_law_words", "_law_replicas", "_law_owns", "_law_kept", "_law_turn", "_law_word", "_law_at"]) (sc := defScope s_law) (by decide +kernel)) (fun _ _ _ _ _ => (pgn 9 sc_law.nd)) (fun _ _ _ _ _ => pts_nil) (fun _ _ _ _ _ => (pe_gd G_law_v_replica hr (pa_cons (pv 9) (pa_cons (pv 2) (pa_cons (pv 3) pa_nil)))))) (pa_cons (pe_lst pa_nil) pa_nil)))) (pg_tup rfl (pgs_cons (pgn 5 sc_law.nd) (pgs_cons (pgn 6 sc_law.nd) (pgs_cons (pgn 7 sc_law.nd) pgs_nil)))))
    (pss_cons (ps_for PassesOwn.never rfl (pi_range1 (by rfl) T.range (pa_cons (pe_op op_add pe_int (pe_gd G_law_take hr (pa_cons (pv 1) (pa_cons pe_int pa_nil)))) pa_nil)) (pgn 8 sc_law.nd) (pss_cons (ps_if (pt_not (pt_val (pe_gd G_law_turn_right hr (pa_cons (pv 1) (pa_cons (pv 5) (pa_cons (pv 6) (pa_cons (pv 7) pa_nil))))))) (pss_one (ps_ret pe_bl)) pss_nil)
    (pss_one (ps_if (pt_cmpR (op_neD hr.units) (pe_lc (own := [("_law_at", 10)]) (g := (gName 10)) (tt := (tNot (tB (tCall _ [] E0 (tCons (tVar 1) (tCons (tOp (rIxL K) (tVar 5) (tVar 10)) (tCons (tOp (rIxL K) (tVar 6) (tVar 10)) tNil))))))) (te := (tVar 10)) rfl sc_law.nd (pi_range1 (by rfl) T.range (pa_cons pe_int pa_nil)) (blkOk_by (N := ["_law_script", "_law_source", "_law_sorts", "_law_line", "_law_words", "_law_replicas", "_law_owns", "_law_kept", "_law_turn", "_law_word", "_law_at"]) (sc := defScope s_law) (by decide +kernel)) (fun _ _ _ _ _ => (pgn 10 sc_law.nd)) (fun _ _ _ _ _ => (pts_one (pt_not (pt_val (pe_gd G_law_is_like hr (pa_cons (pv 1) (pa_cons (pe_ix ix_list (pv 5) (pv 10) (fun _ _ => rfl)) (pa_cons (pe_ix ix_list (pv 6) (pv 10) (fun _ _ => rfl)) pa_nil)))))))) (fun _ _ _ _ _ => (pv 10))) (pe_lst pa_nil) (nomark _)) (pss_one (ps_ret pe_bl)) pss_nil))))
    (pss_one (ps_ret (pe_and (pe_gd G_law_all_met hr (pa_cons (pv 1) (pa_cons (pv 5) (pa_cons (pv 6) pa_nil)))) (pe_one (pe_gd G_law_one_record hr (pa_cons (pv 1) (pa_cons (pv 5) (pa_cons (pv 6) pa_nil)))))))))))))), ?_⟩
  have at' : ∀ H1, S0.T H H1 → SqL K H1 a (ns.map V.int) := fun H1 t => Same.seq (S0.same t) hs
  dsimp only
  refine gx_set (S := S0) (R := fun v H' => ∃ src, v = .ref src ∧ H src = none ∧ SrcOk src H') (ge_call (os := [.val (.ref a), .val (.int 0)]) (ga_two (gv_val rfl) gv_int) fun H1 vs a1 hvs Q k => by
    obtain ⟨x, y, rfl, hx, hy⟩ := isL2 hvs
    cases hx
    cases hy
    exact ⟨a, ns, rfl, at' H1 a1, l63, fun H2 p s2 hp so => k _ H2 (.of_same trivial s2) ⟨p, rfl, a1.free hp, so⟩⟩) H S0.r _ ?_
  rintro _ H1 a1 ⟨_, ⟨src, rfl, hsrc, so1⟩, rfl⟩
  have t1 := TabS.to (S := S0) tPt a1 fun m => m
  have t2 := TabS.to (S := S0) tPh a1 fun m => m
  have np : ∀ {P q}, TabS H P q → P ≠ src := fun {P q} t e => by
    obtain ⟨ps, h, _⟩ := t
    rw [e, hsrc] at h
    cases h
  have np1 := np tPt
  have np2 := np tPh
  dsimp only
  refine gx_set (S := SS src) (R := fun v H' => ∃ fs, Rep H' v (fieldsD fs) ∧ OkF fs) (ge_call (os := [.val (.ref src), .val (.int 2), .val (.int 6)]) (ga_cons (gv_val rfl) (ga_two gv_int gv_int)) fun H2 vs a2 hvs Q k => by
    have := val_isL (xs := [V.ref src, .int 2, .int 6]) hvs
    subst this
    exact ⟨src, rfl, a2.j', fun v H3 fs t3 r3 o3 => k v H3 t3 ⟨fs, r3, o3⟩⟩) H1 (.refl so1) _ ?_
  rintro _ H2 a2 ⟨vF, ⟨fs, rF, okF⟩, rfl⟩
  dsimp only
  refine gx_set (S := SS src) (R := fun v H' => ∃ line, Rep H' v (tupI line) ∧ OkR fs line) (ge_call (os := [.val (.ref src), .dat (fieldsD fs)]) (ga_two (gv_val rfl) (gv_vd (i := 2) rfl rF)) fun H3 vs a3 hvs Q k => by
    obtain ⟨x, y, rfl, hx, hy⟩ := isL2 hvs
    cases hx
    exact ⟨src, y, fs, rfl, a3.j', hy, okF, fun v H4 line t4 r4 o4 => k v H4 t4 ⟨line, r4, o4⟩⟩) H2 a2.fin _ ?_
  rintro _ H3 a3 ⟨vL, ⟨line, rL, okL⟩, rfl⟩
  have rF := rF.mono a3.tups
  have t1 := TabS.to (TabS.to t1 a2 np1) a3 np1
  have t2 := TabS.to (TabS.to t2 a2 np2) a3 np2
  have so3 : SrcOk src H3 := a3.j'
  clear a1 a2 a3 so1
  dsimp only
  refine gx_set (S := S0) (GvL.ge (gl_lst (os := [.val (.str "ann"), .val (.str "b"), .val (.str "c9")]) (ga_cons gv_cv (ga_two gv_cv gv_cv)) (by show 3 ≤ 100000; decide))) H3 S0.r _ ?_
  rintro _ H4 a4 ⟨_, ⟨pw, xw, rfl, hpw, _, hw4, hxw⟩, rfl⟩
  have := val_isL (xs := [V.str "ann", .str "b", .str "c9"]) hxw
  subst this
  have s4 := S0.same a4
  have t1 := TabS.to (S := S0) t1 a4 fun m => m
  have t2 := TabS.to (S := S0) t2 a4 fun m => m
  have rF := rF.mono a4.tups
  have rL := rL.mono a4.tups
  have so4 : SrcOk src H4 := by
    obtain ⟨b, m, h, o⟩ := so3
    exact ⟨b, m, s4 _ _ h, o⟩
  clear a4 s4 so3 hxw
  have hAR : ∀ {H' : Hp} {i : Nat} {r a b : Addr}, RAt C H' r a b ⟨i, fs, line, [], 0, []⟩ → (∃ o, H' r = some o) ∧ (∃ o, H' a = some o) ∧ ∃ o, H' b = some o := fun h => by
    obtain ⟨_, _, _, h1, _, _, ⟨_, h2, _⟩, ⟨_, h3, _⟩⟩ := h
    exact ⟨⟨_, h1⟩, ⟨_, h2⟩, ⟨_, h3⟩⟩
  have hAO : ∀ {H' : Hp} {i : Nat} {r a b : Addr}, OAt H' r a b ⟨i, fs, line, [], 0, []⟩ → (∃ o, H' r = some o) ∧ (∃ o, H' a = some o) ∧ ∃ o, H' b = some o := fun h => by
    obtain ⟨_, _, h1, _, _, ⟨_, h2, _⟩, ⟨_, h3, _⟩⟩ := h
    exact ⟨⟨_, h1⟩, ⟨_, h2⟩, ⟨_, h3⟩⟩
  have three : ∀ {i z : Nat}, ([0, 1, 2] : List Nat)[i]? = some z → z = i ∧ i < 3 := fun {i z} h => by
    have : i < 3 := (List.getElem?_eq_some_iff.mp h).1
    have : i = 0 ∨ i = 1 ∨ i = 2 := by omega
    rcases this with rfl | rfl | rfl <;> cases h <;> exact ⟨rfl, by decide⟩
  have words : ∀ {H5 : Hp} {σ : L2.St}, Same H4 H5 → σ[4]? = some (some (.ref pw)) → GvI S0 (iList K (tVar 4)) σ H5 fun J H1 => WkL S0 J ([0, 1, 2] : List Nat) (fun z x _ => x = V.str (hnd z)) H1 := fun s e4 =>
    gi_list (a := pw) (gv_val e4) (fun H6 t => S0.same t _ _ (s _ _ hw4)) rfl fun i x z H6 t hx hz => by
      obtain ⟨rfl, hi⟩ := three hz
      have : z = 0 ∨ z = 1 ∨ z = 2 := by omega
      rcases this with rfl | rfl | rfl <;> exact (Option.some.inj hx).symm
  have lcR : Ge S0 (tLc (iList K (tVar 4)) (gName 9) tYes (tMake C (sp_Replica_init C) [] E0 (tCons (tVar 9) (tCons (tVar 2) (tCons (tVar 3) tNil)))) [9]) [some (.ref a), some (.ref src), some vF, some vL, some (.ref pw), none, none, none, none, none, none] H4 fun v H' => ∃ p xs, v = .ref p ∧ H4 p = none ∧ H' p = some (.lst xs) ∧ ∃ q, Trip (fun H' i r a b => RAt C H' r a b ⟨i, fs, line, [], 0, []⟩) H4 3 xs q H' := by
    refine ge_lcH (S := S0) (l := [0, 1, 2]) (i0 := 9) (Inv := fun n xs H' => ∃ q, Trip (fun H' i r a b => RAt C H' r a b ⟨i, fs, line, [], 0, []⟩) H4 n xs q H') (words (Same.refl _) rfl) (by show 3 ≤ 100000; decide) (fun n xs H5 H6 t ⟨q, tr⟩ => ⟨q, tr.to fun i r a b h _ => h.same (S0.same t)⟩) (fun n xs H' D u ys hD he ⟨q, tr⟩ => ⟨q, tr.to fun i r a b h _ => h.put he⟩) (fun H5 p t hp he => ⟨[], rfl, .nil, rfl, fun i hi => absurd hi (Nat.not_lt_zero _), fun x hx => by cases hx⟩) (fun i xs H' ⟨q, tr⟩ => by rw [tr.xs, List.length_map, List.length_range]) (fun _ => rfl) (fun i z x H5 xs hz a5 hy ⟨q, tr⟩ => ?_)
    obtain ⟨rfl, hi⟩ := three hz
    subst hy
    intro H6 a6 Q' k'
    refine ⟨_, rfl, vF, rfl, vL, rfl, fun x dx hx hdx nxd => ?_⟩
    have a56 := a5.trans a6
    have sm0 : Same H6 (upd (upd H6 dx (.own x)) x (.ins C dx [])) := fun b o e => by
      rw [upd_ne (fun q => by rw [q, hx] at e; cases e), upd_ne (fun q => by rw [q, hdx] at e; cases e)]
      exact e
    refine ⟨x, dx, z, vF, vL, fs, line, rfl, upd_same, (rF.mono a56.tups).mono (Same.tups sm0), (rL.mono a56.tups).mono (Same.tups sm0), okF, okL, fun H8 dS dH T8 hdS hdH R8 => ⟨rfl, ?_⟩⟩
    have sm8 : Same H6 H8 := fun b o e => T8.k b o (fun q => by rw [show b = x from q, hx] at e; cases e) (sm0 b o e)
    have fr : ∀ {p : Addr}, (upd (upd H6 dx (.own x)) x (.ins C dx [])) p = none → H6 p = none := fun {p} h => by
      cases q : H6 p with
      | none => rfl
      | some o => rw [sm0 _ _ q] at h; cases h
    have n1 := R8.ne
    have n2 := R8.ned
    have tr6 := tr.to (H2 := H6) fun i r a b h _ => h.same (S0.same a6)
    have tr8 := tr6.to (H2 := H8) fun i r a b h _ => h.same sm8
    exact k' _ H8 (.of_same trivial sm8) ⟨_, tr8.snoc hAR tr6 R8 n1.1 n1.2 n2 hx (fr hdS) (fr hdH) (a56.free hx) (a56.free (fr hdS)) (a56.free (fr hdH))⟩
  have lcO : ∀ {H5 : Hp} {lr : Addr}, Same H4 H5 → Ge S0 (tLc (iList K (tVar 4)) (gName 9) tYes (tCall sp_law_v_replica [] E0 (tCons (tVar 9) (tCons (tVar 2) (tCons (tVar 3) tNil)))) [9]) [some (.ref a), some (.ref src), some vF, some vL, some (.ref pw), none, none, none, none, none, none] H5 fun v H' => ∃ p xs, v = .ref p ∧ H5 p = none ∧ H' p = some (.lst xs) ∧ ∃ q, Trip (fun H' i r a b => OAt H' r a b ⟨i, fs, line, [], 0, []⟩) H5 3 xs q H' := fun {H5 lr} s5 => by
    refine ge_lcH (S := S0) (l := [0, 1, 2]) (i0 := 9) (Inv := fun n xs H' => ∃ q, Trip (fun H' i r a b => OAt H' r a b ⟨i, fs, line, [], 0, []⟩) H5 n xs q H') (words s5 rfl) (by show 3 ≤ 100000; decide) (fun n xs H5 H6 t ⟨q, tr⟩ => ⟨q, tr.to fun i r a b h _ => h.same (S0.same t)⟩) (fun n xs H' D u ys hD he ⟨q, tr⟩ => ⟨q, tr.to fun i r a b h _ => h.put he⟩) (fun H5 p t hp he => ⟨[], rfl, .nil, rfl, fun i hi => absurd hi (Nat.not_lt_zero _), fun x hx => by cases hx⟩) (fun i xs H' ⟨q, tr⟩ => by rw [tr.xs, List.length_map, List.length_range]) (fun _ => rfl) (fun i z x H6 xs hz a6 hy ⟨q, tr⟩ => ?_)
    obtain ⟨rfl, hi⟩ := three hz
    subst hy
    intro H7 a7 Q' k'
    have s7 := s5.trans (S0.same (a6.trans a7))
    refine ⟨_, rfl, vF, rfl, vL, rfl, z, vF, vL, fs, line, rfl, rF.mono (Same.tups s7), rL.mono (Same.tups s7), fun o H8 dS dH sm8 ho hdS hdH O8 => ?_⟩
    have n1 := O8.ne
    have n2 := O8.neH
    have tr7 := tr.to (H2 := H7) fun i r a b h _ => h.same (S0.same a7)
    have tr8 := tr7.to (H2 := H8) fun i r a b h _ => h.same sm8
    have a67 := a6.trans a7
    exact k' _ H8 (.of_same trivial sm8) ⟨_, tr8.snoc hAO tr7 O8 n1.1 n2 n1.2 ho hdS hdH (a67.free ho) (a67.free hdS) (a67.free hdH)⟩
  dsimp only
  refine asg3 (K := K) (R2 := fun H5 v H' => ∃ p xs, v = .ref p ∧ H5 p = none ∧ H' p = some (.lst xs) ∧ ∃ q, Trip (fun H' i r a b => OAt H' r a b ⟨i, fs, line, [], 0, []⟩) H5 3 xs q H') lcR (fun v1 H5 s5 r1 => lcO (lr := 0) s5) fun v1 v2 H5 H6 H7 lk s5 s6 r1 r2 hlk s7 => ?_
  obtain ⟨lr, xr, rfl, hlr, hlr5, q1, tr1⟩ := r1
  obtain ⟨lo, xo, rfl, hlo, hlo6, q2, tr2⟩ := r2
  have wd := mk_wd so4 t1 t2 nPP np1 np2 hlr hlr5 tr1 s5 hlo hlo6 tr2 s6 hlk s7
  have pi : PI fs line (fun i => ⟨i, fs, line, [], 0, []⟩) [] [] 0 := by
    refine ⟨fun i _ => ⟨rfl, rfl, rfl⟩, fun i hi => ⟨⟨hi, okF, okL, ⟨fun e he => (by cases he), fun e he => (by cases he), .nil⟩, Nat.zero_le _⟩, fun k hk => ⟨fun h => (by cases h), fun h => absurd h (Nat.not_lt_zero _)⟩, Nat.zero_le _, fun e he => (by cases he), .nil⟩, ⟨fun e he => (by cases he), fun e he => (by cases he), .nil⟩, Nat.le_refl _, Nat.zero_le _, fun i _ e he => (by cases he), fun p hp => (by cases hp), Nat.le_refl _, fun i _ k _ h => (by cases h), fun i _ => Nat.zero_le _⟩
  obtain ⟨L, eL⟩ : ∃ L, L = [src, lr, lo, lk, Pt, Ph] ++ (q1 ++ q2) := ⟨_, rfl⟩
  rw [← eL] at wd
  have eS : src = At L 0 := by rw [eL]; rfl
  have eR : lr = At L 1 := by rw [eL]; rfl
  have eO : lo = At L 2 := by rw [eL]; rfl
  have eK : lk = At L 3 := by rw [eL]; rfl
  clear eL
  subst eS eR eO eK
  refine for_rng (S := SS (At L 0)) (Pn := fun n => n ≤ 18) (fun H8 a8 Q' k' => ?_) wd.src fun n H8 a8 hn => ?_
  · refine ge_take (S := SS (At L 0)) hasSS (top := 13) (σ := [some (.ref a), some (.ref (At L 0)), some vF, some vL, some (.ref pw), some (.ref (At L 1)), some (.ref (At L 2)), some (.ref (At L 3)), none, none, none]) (ga_two (gv_val (i := 1) rfl) gv_int) (by decide) (by decide) H8 a8.fin _ fun v H9 a9 ⟨r, hr, ev⟩ => ?_
    subst ev
    exact ⟨6, (r : Int), rfl, rfl, k' _ H9 a9 ⟨6 + r, by show V.int (6 + (r : Int)) = V.int ((6 + r : Nat) : Int); rw [Int.natCast_add]; rfl, by omega⟩⟩
  have wd8 := (wd.ofS a8).1
  refine loop_at (S := SA fun x => x ∈ L) (l := List.range n) (gi_rngA (n := n) wd8.mut (ga_one gv_int) (by omega)) wd8.mut
    (fun m σ' H' => ∃ (u8 : Option V) (st : Nat → RSt) (kp : List Log) (G : Log), m ≤ n ∧ σ' = [some (.ref a), some (.ref (At L 0)), some vF, some vL, some (.ref pw), some (.ref (At L 1)), some (.ref (At L 2)), some (.ref (At L 3)), u8, none, none] ∧ Wd C Pt Ph L st kp H' ∧ PI fs line st kp G m)
    (fun H9 s9 => ⟨none, _, [], [], Nat.zero_le _, rfl, wd8.same s9, pi⟩) (fun m z x σ' H' hz a9 hq hy => ?_) fun σ' H9 a9 hq => ?_
  · obtain ⟨H0, ⟨u8, st, kp, G, hm, rfl, w0, pi0⟩, s⟩ := hq
    have w1 := w0.same s
    have hi : m < n := by have := (List.getElem?_eq_some_iff.mp hz).1; rwa [List.length_range] at this
    refine ⟨_, fun Q q => q, fun D' hrt kk hbk => ?_⟩
    refine ⟨.ref (At L 0), rfl, .ref (At L 1), rfl, .ref (At L 2), rfl, .ref (At L 3), rfl, L, st, kp, fs, line, G, m, rfl, w1, pi0, by omega, fun H10 st' kp' G' T10 w10 pi10 => ⟨true, rfl, ite2 (fun q => absurd q (by decide)) fun _ => ?_⟩⟩
    have at3r : ∀ {H11 : Hp} {j : Nat}, j < 3 → Wd C Pt Ph L st' kp' H11 → True := fun _ _ => trivial
    refine raw_if (S := SS (At L 0)) (b := false) (gt_neNil ((gl_lc1 (l := List.range 3) (keep := fun _ => false) (f := fun j => Ob.val (.int (j : Int))) (gi_rng1 (n := 3) (ga_one gv_int) (by show 3 ≤ 100000; decide)) (by show 3 ≤ 100000; decide) (fun _ => rfl) fun j z x H11 hz11 a11 hy11 => ⟨?_, fun e => nomatch e⟩).cast rfl)) w10.src (fun e => nomatch e) fun _ H12 a12 => ?_
    · have z3 : z < 3 := by have := List.mem_of_getElem? hz11; exact List.mem_range.mp this
      have hx : x = .int (z : Int) := by rw [show x = V.int (0 + (z : Int)) from hy11, Int.zero_add]
      subst hx
      intro H13 a13 Q' k'
      have w13 := (w10.ofS (a11.trans a13)).1
      refine ⟨.ref (At L 0), rfl, .ref (At L 1), rfl, .int (z : Int), rfl, At L 1, _, (z : Int), _, rfl, rfl, SqL.of w13.lr, atI_nat (w13.at3 z3).1, .ref (At L 2), rfl, .int (z : Int), rfl, At L 2, _, (z : Int), _, rfl, rfl, SqL.of w13.lo, atI_nat (w13.at3 z3).2, ?_⟩
      exact ⟨At L 0, At L (6 + 3 * z), At L (7 + 3 * z), At L (8 + 3 * z), At L (15 + 3 * z), At L (16 + 3 * z), At L (17 + 3 * z), st' z, rfl, w13.src, w13.ra z z3, w13.oa z z3, (pi10.ok z z3).toRO, fun H14 t14 => ⟨true, rfl, k' H14 t14⟩⟩
    · have w12 := w10.ofS a12
      exact kk _ H12 (T10.trans w12.2) ⟨_, st', kp', G', by omega, rfl, w12.1, pi10⟩
  · obtain ⟨u8, st, kp, G, hm, rfl, w9, pi9⟩ := hq
    refine ⟨.ref (At L 0), rfl, .ref (At L 1), rfl, .ref (At L 2), rfl, L, st, kp, fs, line, G, _, rfl, w9, pi9, fun H10 st' T10 w10 pi10 same => ⟨true, rfl, ite2 (fun _ => ?_) fun q => absurd rfl q⟩⟩
    exact ⟨.ref (At L 0), rfl, .ref (At L 1), rfl, .ref (At L 2), rfl, L, st', kp, fs, line, G, _, rfl, w10, pi10, same, k⟩


end
end Ed

set_option maxHeartbeats 1000000
/-! EdEnd: the defs' promises from the head's facts. Printed by endgen.py. -/
namespace Ed
open PySem PySem.Spec PyProof.Rows L2 LamX NdefX
section
variable {P : Program} {w : World} {K : PySem.W.Frag} {mg : Str → Option Value} {base h : Heap}
theorem dfd (X : K.In h) (G : h.Ns mainGlobals mg) (c : He.SaysD faL fnL K) {x : Str} {st : Stmt} {i j : Nat} (hd : fnL[i]? = some (dG x st)) (hg : faL[j]? = some (.glo x)) : DfD K mg x st := by
  obtain ⟨fd, F⟩ := c.def_ i (d := dG x st) hd
  exact ⟨He.ga K x, fd, He.glo_ok X G (c.fact j hg), F⟩
theorem dfm (c : He.SaysD faL fnL K) {cl m q : Str} {st : Stmt} {i j : Nat} (hd : fnL[i]? = some (dM cl m q st)) (hg : faL[j]? = some (.meth cl m)) : DfM K (He.ga K cl) m q st := by
  obtain ⟨fd, F⟩ := c.def_ i (d := dM cl m q st) hd
  exact ⟨He.ma K (He.ga K cl) m, fd, He.meth_ok (c.fact j hg), F⟩
theorem dft (c : He.SaysD faL fnL K) {cl m q : Str} {st : Stmt} {i j : Nat} (hd : fnL[i]? = some (dM cl m q st)) (hg : faL[j]? = some (.meth cl m)) : DfT K (He.ga K cl) m q st (He.cT K (cl, some m)).1 := by
  obtain ⟨fd, F⟩ := c.def_ i (d := dM cl m q st) hd
  refine ⟨He.ma K (He.ga K cl) m, fd, He.meth_ok (c.fact j hg), F, fun a e => ?_⟩
  obtain ⟨oc, od, dV, kV, doc, pm, an, cdv, ct, osl, _, lk, _⟩ := F.ex
  exact (He.codeOf_eq (p := (cl, some m)) lk e).symm
theorem dfc (X : K.In h) (G : h.Ns mainGlobals mg) (c : He.SaysD faL fnL K) {x q : Str} {st : Stmt} {i j l : Nat} (hd : fnL[i]? = some (dM x "__init__" q st)) (hg : faL[j]? = some (.mkr x)) (hl : faL[l]? = some (.glo x)) : DfC K mg x q (He.ga K x) st := by
  obtain ⟨fd, F⟩ := c.def_ i (d := dM x "__init__" q st) hd
  exact ⟨He.ma K (He.ga K x) "__init__", fd, He.mkr_ok (c.fact j hg), He.glo_ok X G (c.fact l hl), F⟩
theorem tx_of (X : K.In h) (G : h.Ns mainGlobals mg) (c : He.SaysD faL fnL K) : Tx mg := ⟨He.free_ok X G (c.fact 111 (f := .free "isinstance") rfl), He.free_ok X G (c.fact 112 (f := .free "bool") rfl), He.free_ok X G (c.fact 113 (f := .free "int") rfl), He.free_ok X G (c.fact 114 (f := .free "tuple") rfl), He.free_ok X G (c.fact 115 (f := .free "all") rfl), He.free_ok X G (c.fact 116 (f := .free "len") rfl), He.free_ok X G (c.fact 117 (f := .free "range") rfl), He.free_ok X G (c.fact 118 (f := .free "sorted") rfl), He.free_ok X G (c.fact 119 (f := .free "set") rfl), He.free_ok X G (c.fact 120 (f := .free "zip") rfl), He.free_ok X G (c.fact 121 (f := .free "enumerate") rfl), He.free_ok X G (c.fact 122 (f := .free "str") rfl), He.free_ok X G (c.fact 123 (f := .free "max") rfl), He.free_ok X G (c.fact 124 (f := .free "min") rfl), He.free_ok X G (c.fact 125 (f := .free "list") rfl), He.str_ok X G (c.fact 109 (f := .str "LETTERS" "abcdefghijklmnopqrstuvwxyz") rfl), He.str_ok X G (c.fact 110 (f := .str "FIGURES" "0123456789") rfl), He.int_ok X G (c.fact 103 (f := .int "MOST_IN_NAME" 12) rfl), He.int_ok X G (c.fact 104 (f := .int "MOST_SIZES" 12) rfl), He.int_ok X G (c.fact 105 (f := .int "LEAST_SIZE" 2) rfl), He.int_ok X G (c.fact 106 (f := .int "MOST_STATES" 12) rfl), He.int_ok X G (c.fact 107 (f := .int "MOST_FIELDS" 6) rfl), He.int_ok X G (c.fact 102 (f := .int "MOST_EDITS_lotwork" 400) rfl), He.int_ok X G (c.fact 108 (f := .int "MOST_EDITS_replicas" 400) rfl)⟩
theorem clR_of (c : He.SaysD faL fnL K) : RCl K (He.ga K "Replica") := ⟨He.cls_ok (c.fact 64 (f := .cls "Replica") rfl), He.noat_ok (c.fact 66 (f := .noat "Replica" "hand") rfl), He.noat_ok (c.fact 67 (f := .noat "Replica" "fields") rfl), He.noat_ok (c.fact 68 (f := .noat "Replica" "first") rfl), He.noat_ok (c.fact 69 (f := .noat "Replica" "steps") rfl), He.noat_ok (c.fact 70 (f := .noat "Replica" "made") rfl), He.noat_ok (c.fact 71 (f := .noat "Replica" "by_name") rfl)⟩
theorem clV_of (c : He.SaysD faL fnL K) : VCl K (He.ga K "Vault") := ⟨He.cls_ok (c.fact 73 (f := .cls "Vault") rfl), He.noat_ok (c.fact 75 (f := .noat "Vault" "kinds") rfl), He.noat_ok (c.fact 76 (f := .noat "Vault" "beginning") rfl), He.noat_ok (c.fact 77 (f := .noat "Vault" "steps") rfl), He.noat_ok (c.fact 78 (f := .noat "Vault" "bases") rfl)⟩
abbrev cR (K : PySem.W.Frag) : Addr := He.ga K "Replica"
abbrev cV (K : PySem.W.Frag) : Addr := He.ga K "Vault"
abbrev pT (K : PySem.W.Frag) : Addr := (He.cT K ("Replica", some "take")).2
abbrev pH (K : PySem.W.Frag) : Addr := (He.cT K ("Replica", some "hear")).2
theorem law_fn {f0 : Addr} {fd0 : FuncData} (X : K.In h) (G : h.Ns mainGlobals mg) (c : He.SaysD faL fnL K) (F : FunD K "law" "law" (defArgs s_law) (defBody s_law) (defScope s_law) [] [] f0 fd0)
    (tbT : TabB base mg (He.cT K ("Replica", some "take")).1 (pT K)) (tbH : TabB base mg (He.cT K ("Replica", some "hear")).1 (pH K)) : FnOk P w K mg base CX0 13 f0 fd0 ["_law_script"] (sp_law K (pT K) (pH K)) := by
  have T := tx_of X G c
  have clR := clR_of c
  have clV := clV_of c
  have g_law_pool := ok_law_pool (P := P) (w := w) (K := K) (mg := mg) (base := base) (T := T) (F := (dfd X G c (i := 31) (j := 31) rfl rfl))
  have g_law_take := ok_law_take (P := P) (w := w) (K := K) (mg := mg) (base := base) (T := T) (F := (dfd X G c (i := 32) (j := 32) rfl rfl))
  have g_law_one := ok_law_one (P := P) (w := w) (K := K) (mg := mg) (base := base) (T := T) (F := (dfd X G c (i := 33) (j := 33) rfl rfl)) (G_law_take := g_law_take)
  have g_law_v_sizes := ok_law_v_sizes (P := P) (w := w) (K := K) (mg := mg) (base := base) (T := T) (F := (dfd X G c (i := 37) (j := 37) rfl rfl)) (G_law_one := g_law_one)
  have g_law_v_all_amounts := ok_law_v_all_amounts (P := P) (w := w) (K := K) (mg := mg) (base := base) (T := T) (F := (dfd X G c (i := 36) (j := 36) rfl rfl))
  have g_law_mixed := ok_law_mixed (P := P) (w := w) (K := K) (mg := mg) (base := base) (T := T) (F := (dfd X G c (i := 34) (j := 34) rfl rfl)) (G_law_take := g_law_take)
  have g_law_v_kind := ok_law_v_kind (P := P) (w := w) (K := K) (mg := mg) (base := base) (T := T) (F := (dfd X G c (i := 38) (j := 38) rfl rfl)) (G_law_v_sizes := g_law_v_sizes) (G_law_v_all_amounts := g_law_v_all_amounts) (G_law_mixed := g_law_mixed) (G_law_take := g_law_take)
  have g_law_v_fields := ok_law_v_fields (P := P) (w := w) (K := K) (mg := mg) (base := base) (T := T) (F := (dfd X G c (i := 42) (j := 42) rfl rfl)) (G_law_take := g_law_take) (G_law_v_kind := g_law_v_kind)
  have g_law_v_some_record := ok_law_v_some_record (P := P) (w := w) (K := K) (mg := mg) (base := base) (T := T) (F := (dfd X G c (i := 43) (j := 43) rfl rfl)) (G_law_take := g_law_take)
  have g_law_v_replica := ok_law_v_replica (P := P) (w := w) (K := K) (mg := mg) (base := base) (T := T) (F := (dfd X G c (i := 50) (j := 50) rfl rfl))
  have g_law_v_ids := ok_law_v_ids (P := P) (w := w) (K := K) (mg := mg) (base := base) (T := T) (F := (dfd X G c (i := 51) (j := 51) rfl rfl))
  have g_law_some := ok_law_some (P := P) (w := w) (K := K) (mg := mg) (base := base) (T := T) (F := (dfd X G c (i := 35) (j := 35) rfl rfl)) (G_law_take := g_law_take)
  have g_law_v_amounts := ok_law_v_amounts (P := P) (w := w) (K := K) (mg := mg) (base := base) (T := T) (F := (dfd X G c (i := 44) (j := 44) rfl rfl))
  have g_law_v_put := ok_law_v_put (P := P) (w := w) (K := K) (mg := mg) (base := base) (T := T) (F := (dfd X G c (i := 39) (j := 39) rfl rfl))
  have g_law_v_moved := ok_law_v_moved (P := P) (w := w) (K := K) (mg := mg) (base := base) (T := T) (F := (dfd X G c (i := 45) (j := 45) rfl rfl)) (G_law_v_put := g_law_v_put)
  have g_law_v_amounts_by_ids := ok_law_v_amounts_by_ids (P := P) (w := w) (K := K) (mg := mg) (base := base) (T := T) (F := (dfd X G c (i := 52) (j := 52) rfl rfl)) (G_law_v_amounts := g_law_v_amounts) (G_law_v_moved := g_law_v_moved)
  have g_law_v_from_to := ok_law_v_from_to (P := P) (w := w) (K := K) (mg := mg) (base := base) (T := T) (F := (dfd X G c (i := 40) (j := 40) rfl rfl))
  have g_law_v_steps := ok_law_v_steps (P := P) (w := w) (K := K) (mg := mg) (base := base) (T := T) (F := (dfd X G c (i := 46) (j := 46) rfl rfl)) (G_law_v_from_to := g_law_v_from_to)
  have g_law_v_edited_here := ok_law_v_edited_here (P := P) (w := w) (K := K) (mg := mg) (base := base) (T := T) (F := (dfd X G c (i := 53) (j := 53) rfl rfl)) (G_law_v_amounts_by_ids := g_law_v_amounts_by_ids) (G_law_v_amounts := g_law_v_amounts) (G_law_v_steps := g_law_v_steps)
  have g_law_v_packet := ok_law_v_packet (P := P) (w := w) (K := K) (mg := mg) (base := base) (T := T) (F := (dfd X G c (i := 54) (j := 54) rfl rfl)) (G_law_v_ids := g_law_v_ids)
  have g_law_v_taken := ok_law_v_taken (P := P) (w := w) (K := K) (mg := mg) (base := base) (T := T) (F := (dfd X G c (i := 55) (j := 55) rfl rfl))
  have g_is_whole := ok_is_whole (P := P) (w := w) (K := K) (mg := mg) (base := base) (T := T) (F := (dfd X G c (i := 0) (j := 0) rfl rfl))
  have g_is_between := ok_is_between (P := P) (w := w) (K := K) (mg := mg) (base := base) (T := T) (F := (dfd X G c (i := 1) (j := 1) rfl rfl)) (G_is_whole := g_is_whole)
  have g_is_below := ok_is_below (P := P) (w := w) (K := K) (mg := mg) (base := base) (T := T) (F := (dfd X G c (i := 2) (j := 2) rfl rfl)) (G_is_between := g_is_between)
  have g_is_name := ok_is_name (P := P) (w := w) (K := K) (mg := mg) (base := base) (T := T) (F := (dfd X G c (i := 6) (j := 6) rfl rfl))
  have g_is_id := ok_is_id (P := P) (w := w) (K := K) (mg := mg) (base := base) (T := T) (F := (dfd X G c (i := 27) (j := 27) rfl rfl)) (G_is_below := g_is_below) (G_is_name := g_is_name)
  have g_is_hands := ok_is_hands (P := P) (w := w) (K := K) (mg := mg) (base := base) (T := T) (F := (dfd X G c (i := 9) (j := 9) rfl rfl)) (G_is_below := g_is_below)
  have g_is_amount := ok_is_amount (P := P) (w := w) (K := K) (mg := mg) (base := base) (T := T) (F := (dfd X G c (i := 13) (j := 13) rfl rfl)) (G_is_hands := g_is_hands)
  have g_is_amounts := ok_is_amounts (P := P) (w := w) (K := K) (mg := mg) (base := base) (T := T) (F := (dfd X G c (i := 22) (j := 22) rfl rfl)) (G_is_amount := g_is_amount)
  have g_Replica_is_unlike := ok_Replica_is_unlike (P := P) (w := w) (K := K) (mg := mg) (base := base) (C := cR K) (T := T) (cl := clR) (F := (dfm c (i := 73) (j := 89) rfl rfl))
  have g_Replica_take := ok_Replica_take (P := P) (w := w) (K := K) (mg := mg) (base := base) (C := cR K) (G_is_id := g_is_id) (G_is_amounts := g_is_amounts) (T := T) (cl := clR) (F := (dft c (i := 74) (j := 90) rfl rfl)) (W := (dfd X G c (i := 30) (j := 30) rfl rfl)) (TB := tbT) (M_Replica_is_unlike := g_Replica_is_unlike)
  have g_law_heard_right := ok_law_heard_right (P := P) (w := w) (K := K) (mg := mg) (base := base) (C := cR K) (Pt := pT K) (T := T) (F := (dfd X G c (i := 58) (j := 58) rfl rfl)) (G_law_v_taken := g_law_v_taken) (M_Replica_take := g_Replica_take)
  have g_is_state := ok_is_state (P := P) (w := w) (K := K) (mg := mg) (base := base) (T := T) (F := (dfd X G c (i := 14) (j := 14) rfl rfl)) (G_is_below := g_is_below)
  have g_want_record := ok_want_record (P := P) (w := w) (K := K) (mg := mg) (base := base) (T := T) (F := (dfd X G c (i := 21) (j := 21) rfl rfl)) (G_is_state := g_is_state)
  have g_amounts_of := ok_amounts_of (P := P) (w := w) (K := K) (mg := mg) (base := base) (T := T) (F := (dfd X G c (i := 23) (j := 23) rfl rfl))
  have g_step_of := ok_step_of (P := P) (w := w) (K := K) (mg := mg) (base := base) (T := T) (F := (dfd X G c (i := 17) (j := 17) rfl rfl))
  have g_steps_between := ok_steps_between (P := P) (w := w) (K := K) (mg := mg) (base := base) (T := T) (F := (dfd X G c (i := 24) (j := 24) rfl rfl)) (G_step_of := g_step_of)
  have g_is_ids := ok_is_ids (P := P) (w := w) (K := K) (mg := mg) (base := base) (T := T) (F := (dfd X G c (i := 28) (j := 28) rfl rfl)) (G_is_id := g_is_id)
  have g_want_ids := ok_want_ids (P := P) (w := w) (K := K) (mg := mg) (base := base) (T := T) (F := (dfd X G c (i := 29) (j := 29) rfl rfl)) (G_is_ids := g_is_ids)
  have g_Replica_want_known := ok_Replica_want_known (P := P) (w := w) (K := K) (mg := mg) (base := base) (C := cR K) (T := T) (cl := clR) (F := (dfm c (i := 64) (j := 80) rfl rfl))
  have g_Replica_want_lot := ok_Replica_want_lot (P := P) (w := w) (K := K) (mg := mg) (base := base) (C := cR K) (T := T) (cl := clR) (F := (dfm c (i := 65) (j := 81) rfl rfl)) (G_want_ids := g_want_ids) (M_Replica_want_known := g_Replica_want_known)
  have g_moved_by := ok_moved_by (P := P) (w := w) (K := K) (mg := mg) (base := base) (T := T) (F := (dfd X G c (i := 16) (j := 16) rfl rfl))
  have g_amounts_behind := ok_amounts_behind (P := P) (w := w) (K := K) (mg := mg) (base := base) (T := T) (F := (dfd X G c (i := 25) (j := 25) rfl rfl)) (G_moved_by := g_moved_by)
  have g_Replica_amounts_at := ok_Replica_amounts_at (P := P) (w := w) (K := K) (mg := mg) (base := base) (C := cR K) (T := T) (cl := clR) (F := (dfm c (i := 66) (j := 82) rfl rfl)) (G_amounts_behind := g_amounts_behind)
  have g_Replica_edit := ok_Replica_edit (P := P) (w := w) (K := K) (mg := mg) (base := base) (C := cR K) (T := T) (cl := clR) (F := (dfm c (i := 67) (j := 83) rfl rfl)) (G_want_record := g_want_record) (G_amounts_of := g_amounts_of) (G_steps_between := g_steps_between) (M_Replica_want_lot := g_Replica_want_lot) (M_Replica_amounts_at := g_Replica_amounts_at)
  have g_Replica_known := ok_Replica_known (P := P) (w := w) (K := K) (mg := mg) (base := base) (C := cR K) (T := T) (cl := clR) (F := (dfm c (i := 68) (j := 84) rfl rfl))
  have g_Replica_packet := ok_Replica_packet (P := P) (w := w) (K := K) (mg := mg) (base := base) (C := cR K) (T := T) (cl := clR) (F := (dfm c (i := 72) (j := 88) rfl rfl)) (G_want_ids := g_want_ids) (M_Replica_known := g_Replica_known)
  have g_Replica_head := ok_Replica_head (P := P) (w := w) (K := K) (mg := mg) (base := base) (C := cR K) (T := T) (cl := clR) (F := (dfm c (i := 76) (j := 92) rfl rfl))
  have g_want_name := ok_want_name (P := P) (w := w) (K := K) (mg := mg) (base := base) (T := T) (F := (dfd X G c (i := 7) (j := 7) rfl rfl)) (G_is_name := g_is_name)
  have g_Replica_set_head := ok_Replica_set_head (P := P) (w := w) (K := K) (mg := mg) (base := base) (C := cR K) (T := T) (cl := clR) (F := (dfm c (i := 75) (j := 91) rfl rfl)) (G_want_name := g_want_name) (M_Replica_want_lot := g_Replica_want_lot)
  have g_law_turn_right := ok_law_turn_right (P := P) (w := w) (K := K) (mg := mg) (base := base) (C := cR K) (Pt := pT K) (Ph := pH K) (T := T) (F := (dfd X G c (i := 59) (j := 59) rfl rfl)) (G_law_take := g_law_take) (G_law_v_ids := g_law_v_ids) (G_law_some := g_law_some) (G_law_v_some_record := g_law_v_some_record) (G_law_v_edited_here := g_law_v_edited_here) (G_law_v_packet := g_law_v_packet) (G_law_one := g_law_one) (G_law_heard_right := g_law_heard_right) (M_Replica_edit := g_Replica_edit) (M_Replica_packet := g_Replica_packet) (M_Replica_head := g_Replica_head) (M_Replica_set_head := g_Replica_set_head)
  have g_law_v_state := ok_law_v_state (P := P) (w := w) (K := K) (mg := mg) (base := base) (T := T) (F := (dfd X G c (i := 41) (j := 41) rfl rfl))
  have g_law_v_record_at := ok_law_v_record_at (P := P) (w := w) (K := K) (mg := mg) (base := base) (T := T) (F := (dfd X G c (i := 47) (j := 47) rfl rfl)) (G_law_v_state := g_law_v_state)
  have g_law_v_barred_at := ok_law_v_barred_at (P := P) (w := w) (K := K) (mg := mg) (base := base) (T := T) (F := (dfd X G c (i := 48) (j := 48) rfl rfl)) (G_law_v_record_at := g_law_v_record_at)
  have g_state_of := ok_state_of (P := P) (w := w) (K := K) (mg := mg) (base := base) (T := T) (F := (dfd X G c (i := 15) (j := 15) rfl rfl))
  have g_record_at := ok_record_at (P := P) (w := w) (K := K) (mg := mg) (base := base) (T := T) (F := (dfd X G c (i := 26) (j := 26) rfl rfl)) (G_state_of := g_state_of)
  have g_Replica_amounts := ok_Replica_amounts (P := P) (w := w) (K := K) (mg := mg) (base := base) (C := cR K) (T := T) (cl := clR) (F := (dfm c (i := 69) (j := 85) rfl rfl)) (M_Replica_want_lot := g_Replica_want_lot) (M_Replica_amounts_at := g_Replica_amounts_at)
  have g_Replica_record := ok_Replica_record (P := P) (w := w) (K := K) (mg := mg) (base := base) (C := cR K) (T := T) (cl := clR) (F := (dfm c (i := 70) (j := 86) rfl rfl)) (G_record_at := g_record_at) (M_Replica_amounts := g_Replica_amounts)
  have g_Replica_barred := ok_Replica_barred (P := P) (w := w) (K := K) (mg := mg) (base := base) (C := cR K) (T := T) (cl := clR) (F := (dfm c (i := 71) (j := 87) rfl rfl)) (M_Replica_record := g_Replica_record)
  have g_law_is_like := ok_law_is_like (P := P) (w := w) (K := K) (mg := mg) (base := base) (C := cR K) (T := T) (F := (dfd X G c (i := 57) (j := 57) rfl rfl)) (G_law_v_ids := g_law_v_ids) (G_law_some := g_law_some) (G_law_v_amounts_by_ids := g_law_v_amounts_by_ids) (G_law_v_record_at := g_law_v_record_at) (G_law_v_barred_at := g_law_v_barred_at) (M_Replica_record := g_Replica_record) (M_Replica_amounts := g_Replica_amounts) (M_Replica_known := g_Replica_known) (M_Replica_barred := g_Replica_barred)
  have g_is_lot := ok_is_lot (P := P) (w := w) (K := K) (mg := mg) (base := base) (T := T) (F := (dfd X G c (i := 3) (j := 3) rfl rfl)) (G_is_below := g_is_below)
  have g_want_lot := ok_want_lot (P := P) (w := w) (K := K) (mg := mg) (base := base) (T := T) (F := (dfd X G c (i := 4) (j := 4) rfl rfl)) (G_is_lot := g_is_lot)
  have g_Vault_edits := ok_Vault_edits (P := P) (w := w) (K := K) (mg := mg) (base := base) (C := cV K) (T := T) (cl := clV) (F := (dfm c (i := 80) (j := 96) rfl rfl))
  have g_Vault_amounts_in := ok_Vault_amounts_in (P := P) (w := w) (K := K) (mg := mg) (base := base) (C := cV K) (T := T) (cl := clV) (F := (dfm c (i := 81) (j := 97) rfl rfl)) (G_amounts_of := g_amounts_of) (G_amounts_behind := g_amounts_behind)
  have g_Vault_amounts := ok_Vault_amounts (P := P) (w := w) (K := K) (mg := mg) (base := base) (C := cV K) (T := T) (cl := clV) (F := (dfm c (i := 85) (j := 101) rfl rfl)) (G_want_lot := g_want_lot) (M_Vault_edits := g_Vault_edits) (M_Vault_amounts_in := g_Vault_amounts_in)
  have g_Vault_edit := ok_Vault_edit (P := P) (w := w) (K := K) (mg := mg) (base := base) (C := cV K) (T := T) (cl := clV) (F := (dfm c (i := 82) (j := 98) rfl rfl)) (G_want_lot := g_want_lot) (G_want_record := g_want_record) (G_amounts_of := g_amounts_of) (G_steps_between := g_steps_between) (M_Vault_edits := g_Vault_edits) (M_Vault_amounts_in := g_Vault_amounts_in)
  have g_Vault_want_edit := ok_Vault_want_edit (P := P) (w := w) (K := K) (mg := mg) (base := base) (C := cV K) (T := T) (cl := clV) (F := (dfm c (i := 83) (j := 99) rfl rfl)) (G_is_below := g_is_below) (M_Vault_edits := g_Vault_edits)
  have g_Vault_steps_of := ok_Vault_steps_of (P := P) (w := w) (K := K) (mg := mg) (base := base) (C := cV K) (T := T) (cl := clV) (F := (dfm c (i := 84) (j := 100) rfl rfl)) (M_Vault_want_edit := g_Vault_want_edit)
  have g_are_few := ok_are_few (P := P) (w := w) (K := K) (mg := mg) (base := base) (T := T) (F := (dfd X G c (i := 18) (j := 18) rfl rfl))
  have g_is_sizes := ok_is_sizes (P := P) (w := w) (K := K) (mg := mg) (base := base) (T := T) (F := (dfd X G c (i := 8) (j := 8) rfl rfl)) (G_is_whole := g_is_whole)
  have g_are_hands := ok_are_hands (P := P) (w := w) (K := K) (mg := mg) (base := base) (T := T) (F := (dfd X G c (i := 10) (j := 10) rfl rfl)) (G_is_hands := g_is_hands)
  have g_wrong_part := ok_wrong_part (P := P) (w := w) (K := K) (mg := mg) (base := base) (T := T) (F := (dfd X G c (i := 11) (j := 11) rfl rfl)) (G_is_sizes := g_is_sizes) (G_are_hands := g_are_hands)
  have g_is_kind := ok_is_kind (P := P) (w := w) (K := K) (mg := mg) (base := base) (T := T) (F := (dfd X G c (i := 12) (j := 12) rfl rfl)) (G_wrong_part := g_wrong_part)
  have g_first_wrong := ok_first_wrong (P := P) (w := w) (K := K) (mg := mg) (base := base) (T := T) (F := (dfd X G c (i := 19) (j := 19) rfl rfl)) (G_is_kind := g_is_kind)
  have g_made_fields := ok_made_fields (P := P) (w := w) (K := K) (mg := mg) (base := base) (T := T) (F := (dfd X G c (i := 20) (j := 20) rfl rfl)) (G_are_few := g_are_few) (G_first_wrong := g_first_wrong)
  have g_Vault_init := ok_Vault_init (P := P) (w := w) (K := K) (mg := mg) (base := base) (C := cV K) (T := T) (cl := clV) (F := (dfc X G c (i := 79) (j := 74) (l := 72) rfl rfl rfl)) (G_made_fields := g_made_fields) (G_want_record := g_want_record)
  have g_law_one_record := ok_law_one_record (P := P) (w := w) (K := K) (mg := mg) (base := base) (C := cR K) (CV := cV K) (Pt := pT K) (Ph := pH K) (T := T) (F := (dfd X G c (i := 61) (j := 61) rfl rfl)) (G_law_v_ids := g_law_v_ids) (G_law_some := g_law_some) (G_law_v_amounts_by_ids := g_law_v_amounts_by_ids) (G_law_v_record_at := g_law_v_record_at) (G_law_v_moved := g_law_v_moved) (M_Replica_record := g_Replica_record) (M_Replica_amounts := g_Replica_amounts) (M_Replica_known := g_Replica_known) (M_Vault_amounts := g_Vault_amounts) (M_Vault_edit := g_Vault_edit) (M_Vault_steps_of := g_Vault_steps_of) (M_Vault := g_Vault_init)
  have g_law_v_both := ok_law_v_both (P := P) (w := w) (K := K) (mg := mg) (base := base) (T := T) (F := (dfd X G c (i := 49) (j := 49) rfl rfl))
  have g_law_v_heard := ok_law_v_heard (P := P) (w := w) (K := K) (mg := mg) (base := base) (T := T) (F := (dfd X G c (i := 56) (j := 56) rfl rfl)) (G_law_v_both := g_law_v_both)
  have g_Replica_heads := ok_Replica_heads (P := P) (w := w) (K := K) (mg := mg) (base := base) (C := cR K) (T := T) (cl := clR) (F := (dfm c (i := 77) (j := 93) rfl rfl))
  have g_joined := ok_joined (P := P) (w := w) (K := K) (mg := mg) (base := base) (T := T) (F := (dfd X G c (i := 5) (j := 5) rfl rfl))
  have g_Replica_hear := ok_Replica_hear (P := P) (w := w) (K := K) (mg := mg) (base := base) (C := cR K) (G_is_name := g_is_name) (G_is_ids := g_is_ids) (T := T) (cl := clR) (F := (dft c (i := 78) (j := 94) rfl rfl)) (W := (dfd X G c (i := 30) (j := 30) rfl rfl)) (TB := tbH) (G_joined := g_joined) (M_Replica_want_known := g_Replica_want_known)
  have g_law_all_met := ok_law_all_met (P := P) (w := w) (K := K) (mg := mg) (base := base) (C := cR K) (Pt := pT K) (Ph := pH K) (T := T) (F := (dfd X G c (i := 60) (j := 60) rfl rfl)) (G_law_take := g_law_take) (G_law_mixed := g_law_mixed) (G_law_heard_right := g_law_heard_right) (G_law_v_heard := g_law_v_heard) (M_Replica_packet := g_Replica_packet) (M_Replica_heads := g_Replica_heads) (M_Replica_hear := g_Replica_hear)
  have g_Replica_init := ok_Replica_init (P := P) (w := w) (K := K) (mg := mg) (base := base) (C := cR K) (T := T) (cl := clR) (F := (dfc X G c (i := 63) (j := 65) (l := 63) rfl rfl rfl)) (G_want_name := g_want_name) (G_made_fields := g_made_fields) (G_want_record := g_want_record) (G_amounts_of := g_amounts_of)
  exact ok_law (C := cR K) (T := T) (F := F) (G_law_pool := g_law_pool) (G_law_v_fields := g_law_v_fields) (G_law_v_some_record := g_law_v_some_record) (G_law_v_replica := g_law_v_replica) (G_law_take := g_law_take) (G_law_turn_right := g_law_turn_right) (G_law_is_like := g_law_is_like) (G_law_one_record := g_law_one_record) (G_law_all_met := g_law_all_met) (M_Replica := g_Replica_init)
end
theorem law_at {w : World} {K : PySem.W.Frag} {mg : Str → Option Value} {fa : Addr} {h : Heap} {l : PySem.W.OpenLaw} (X : K.In h) (G : h.Ns mainGlobals mg) (hfa : mg ("law" : Str) = some (.ref fa)) (c : He.SaysX faL fnL [] tfL (fun _ => true) w h K) (t : twoE K = true) : LawAtS l w K CX0 13 63 "_law_script" mg fa h := by
  have d := c.t.d
  obtain ⟨fd, F⟩ := d.def_ 62 (d := dG "law" s_law) rfl
  have e := hfa.symm.trans (He.glo_ok X G (d.fact 62 (f := .glo "law") rfl))
  cases e
  have b := FunD.bindsA (ps := ["_law_script"]) F fun _ _ _ _ _ _ us hl => match us, hl with | [_], _ => rfl
  refine ⟨fd, tfL.map (He.cT K), sp_law K (pT K) (pH K), fun p hp => ?_, fun p hp => ?_, fun p hp => ?_, fun s u => b s [u] rfl, fun H a ns hl _ hT hS => ?_, fun base Xb Gb tb => ?_⟩
  · obtain ⟨q, hq, rfl⟩ := List.mem_map.mp hp
    exact c.empty q hq
  · obtain ⟨q, hq, rfl⟩ := List.mem_map.mp hp
    exact c.out q hq
  · obtain ⟨q, hq, rfl⟩ := List.mem_map.mp hp
    exact PySem.W.codeHd_of_K X (c.hd q hq)
  · have tab : ∀ {p : Addr} {q : Str}, H p = some (.tbl #[]) → TabS H p q := fun {p q} e => ⟨#[], e, True.intro, fun pos cv e => nomatch (show (none : Option Value) = some cv from e)⟩
    refine ⟨a, ns, rfl, hS, hl, tab (hT _ (List.mem_map.mpr ⟨_, List.mem_cons_self, rfl⟩)), tab (hT _ (List.mem_map.mpr ⟨_, List.mem_cons_of_mem _ List.mem_cons_self, rfl⟩)), fun e => ?_, fun _ => rfl⟩
    have t' := t
    unfold twoE at t'
    rw [decide_eq_true e] at t'
    cases t'
  · exact law_fn Xb Gb d F (tb _ (List.mem_map.mpr ⟨_, List.mem_cons_self, rfl⟩)) (tb _ (List.mem_map.mpr ⟨_, List.mem_cons_of_mem _ List.mem_cons_self, rfl⟩))
end Ed
open PySem PySem.W PySem.Calls PyProof.Rows
theorem PySem.Challenge.cw_editlots_k63_whole_three_replicas_in_any_holds : PySem.Challenge.rw_editlots_k63_whole_three_replicas_in_any.Holds := by
  w_on; o_law
  refine HandSHeadRun.head_any (r := Ed.RR) (q := view Ed.RR.prog [95]) (H := Ed.hkE) (ob := Ed.obE) (M := 30000) (loose := Ed.looseL) (d := HandSHeadRun.topDef Ed.RR.prog 95) (kwd := []) Ed.obE_eq
    (by kernel_rfl) (fun s => by kernel_rfl) Ed.runE (by kernel_rfl) (by kernel_rfl) (by kernel_rfl) (by rfl) (by first | assumption | decide +kernel) (by decide +kernel) ⟨rfl, rfl, rfl, rfl, rfl, by decide +kernel⟩ ?hw ?hc
  case hw => w_witness2
  case hc =>
    refine LamX.walk_ofTsE (l := PySem.Challenge.rw_editlots_k63_whole_three_replicas_in_any) (n := 63) (k := 13) (x := "_law_script") (CX := fun _ => L2.CX0) rfl (by decide) (by kernel_rfl) ⟨rfl, by decide, by decide⟩ ?F (fun _ _ _ _ _ z => z)
    intro w mg fa h Y G hmg0
    obtain ⟨K, KX, c, t⟩ := Y
    have hmg : mg ("law" : PySem.Str) = some (.ref fa) := by
      have e : (HandSHeadRun.topDef Ed.RR.prog 95).name = ("law" : PySem.Str) := by kernel_rfl
      rw [← e]
      exact hmg0
    exact ⟨K, KX, Ed.law_at KX G hmg c t⟩
