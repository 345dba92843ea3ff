import PyProof.Rows.All
import Wide.All
import OpenK.AllK
import Wide.FinOn
import KE.KStateDown
import HandS.ForMost
import HandS.ForExc
import HandS.Defaults
import HandS.Head0
import HandS.Head1
import HandS.Head2
import HandS.HeadEnd
import HandS.HeadHook1
import HandS.HeadHook2
import HandS.HeadHook3
import HandS.HeadHook4
import HandS.Deep
import HandS.Flow
import HandS.IsInst
import HandS.TupLen
import HandS.More
import HandS.Sort
import HandS.Rev
import HandS.Conv
import HandS.TupAny
import PySem.Challenge.RW_pourparler_k49_whole_accepted_traces
set_option Elab.async false
set_option linter.all false
set_option maxRecDepth 100000
set_option maxHeartbeats 0
namespace K49
open PySem PySem.Spec PyProof.Rows L2
def top (i : Nat) : Stmt := PySem.Challenge.pw_pourparler_k49_whole_accepted_traces.main.body.getD i (.Pass ⟨0, 0, 0, 0⟩)
abbrev s_is_reference : Stmt := top 5
abbrev s_dual_kind : Stmt := top 6
abbrev s_dual : Stmt := top 7
abbrev s_head : Stmt := top 8
abbrev s_row_of : Stmt := top 9
abbrev s_is_talk_kind : Stmt := top 11
abbrev s_asked_rows : Stmt := top 12
abbrev s_payload_pair : Stmt := top 13
abbrev s_reason_at : Stmt := top 14
abbrev s_reached_pairs : Stmt := top 15
abbrev s_wrong_path : Stmt := top 16
abbrev s_is_subtalk : Stmt := top 17
abbrev s_is_whole : Stmt := top 21
abbrev s_is_end : Stmt := top 22
abbrev s_is_kind : Stmt := top 23
abbrev s_ends_of : Stmt := top 24
abbrev s_judge : Stmt := top 27
abbrev s__law_wide : Stmt := top 29
abbrev s__law_take : Stmt := top 30
abbrev s__law_pool : Stmt := top 31
abbrev s__law_names : Stmt := top 32
abbrev s__law_kind : Stmt := top 33
abbrev s__law_label : Stmt := top 34
abbrev s__law_talk : Stmt := top 35
abbrev s__law_table : Stmt := top 36
abbrev s__law_dual : Stmt := top 37
abbrev s__law_head : Stmt := top 38
abbrev s__law_row : Stmt := top 39
abbrev s__law_kinds : Stmt := top 40
abbrev s__law_asked : Stmt := top 41
abbrev s__law_fails : Stmt := top 42
abbrev s__law_after : Stmt := top 43
abbrev s__law_pairs : Stmt := top 44
abbrev s__law_is_subtalk : Stmt := top 45
abbrev s__law_blank : Stmt := top 46
abbrev s__law_whole : Stmt := top 47
abbrev s__law_end : Stmt := top 48
abbrev s__law_running : Stmt := top 49
abbrev s__law_is_side : Stmt := top 50
abbrev s__law_may_open : Stmt := top 51
abbrev s__law_may_say : Stmt := top 52
abbrev s__law_like : Stmt := top 53
abbrev s__law_may_here : Stmt := top 54
abbrev s__law_may : Stmt := top 55
abbrev s__law_leave : Stmt := top 56
abbrev s__law_do : Stmt := top 57
abbrev s__law_message : Stmt := top 58
abbrev s__law_payload : Stmt := top 59
abbrev s__law_say : Stmt := top 60
abbrev s__law_moves : Stmt := top 61
abbrev s__law_event : Stmt := top 62
abbrev s__law_other : Stmt := top 63
abbrev s__law_path : Stmt := top 64
abbrev s__law_side_right : Stmt := top 65
abbrev s__law_about : Stmt := top 66
abbrev s__law_all_right : Stmt := top 67
abbrev s_law : Stmt := top 68
abbrev s_Ledger___init__ : Stmt := inClass (top 25) 0
abbrev s_Ledger_allows : Stmt := inClass (top 25) 1
abbrev s_Ledger__is_running : Stmt := inClass (top 25) 2
abbrev s_Ledger__allows_open : Stmt := inClass (top 25) 3
abbrev s_Ledger__allows_at : Stmt := inClass (top 25) 4
abbrev s_Ledger__is_payload : Stmt := inClass (top 25) 5
abbrev s_Ledger__is_oldest : Stmt := inClass (top 25) 6
abbrev s_Ledger_enter : Stmt := inClass (top 25) 7
abbrev s_Ledger__enter_open : Stmt := inClass (top 25) 8
abbrev s_Ledger__enter_at : Stmt := inClass (top 25) 9
abbrev s_Ledger__say : Stmt := inClass (top 25) 10
abbrev s_Ledger__hear : Stmt := inClass (top 25) 11
abbrev s_Ledger__leave : Stmt := inClass (top 25) 12
abbrev s_Ledger_owed : Stmt := inClass (top 25) 17
abbrev s_Ledger_finished : Stmt := inClass (top 25) 20
abbrev mkD (a : Str × Option Str) (n qn : Str) (s : Stmt) : He.DefD := ⟨a, n, qn, defArgs s, defBody s, defScope s, [], []⟩
def fn0 : List He.DefD := [mkD ("is_reference", none) "is_reference" "is_reference" s_is_reference, mkD ("dual_kind", none) "dual_kind" "dual_kind" s_dual_kind, mkD ("dual", none) "dual" "dual" s_dual, mkD ("head", none) "head" "head" s_head, mkD ("row_of", none) "row_of" "row_of" s_row_of, mkD ("is_talk_kind", none) "is_talk_kind" "is_talk_kind" s_is_talk_kind, mkD ("asked_rows", none) "asked_rows" "asked_rows" s_asked_rows, mkD ("payload_pair", none) "payload_pair" "payload_pair" s_payload_pair, mkD ("reason_at", none) "reason_at" "reason_at" s_reason_at, mkD ("reached_pairs", none) "reached_pairs" "reached_pairs" s_reached_pairs, mkD ("wrong_path", none) "wrong_path" "wrong_path" s_wrong_path, mkD ("is_subtalk", none) "is_subtalk" "is_subtalk" s_is_subtalk, mkD ("is_whole", none) "is_whole" "is_whole" s_is_whole, mkD ("is_end", none) "is_end" "is_end" s_is_end, mkD ("is_kind", none) "is_kind" "is_kind" s_is_kind, mkD ("ends_of", none) "ends_of" "ends_of" s_ends_of, mkD ("judge", none) "judge" "judge" s_judge, mkD ("_law_wide", none) "_law_wide" "_law_wide" s__law_wide, mkD ("_law_take", none) "_law_take" "_law_take" s__law_take, mkD ("_law_pool", none) "_law_pool" "_law_pool" s__law_pool]
def fn1 : List He.DefD := [mkD ("_law_names", none) "_law_names" "_law_names" s__law_names, mkD ("_law_kind", none) "_law_kind" "_law_kind" s__law_kind, mkD ("_law_label", none) "_law_label" "_law_label" s__law_label, mkD ("_law_talk", none) "_law_talk" "_law_talk" s__law_talk, mkD ("_law_table", none) "_law_table" "_law_table" s__law_table, mkD ("_law_dual", none) "_law_dual" "_law_dual" s__law_dual, mkD ("_law_head", none) "_law_head" "_law_head" s__law_head, mkD ("_law_row", none) "_law_row" "_law_row" s__law_row, mkD ("_law_kinds", none) "_law_kinds" "_law_kinds" s__law_kinds, mkD ("_law_asked", none) "_law_asked" "_law_asked" s__law_asked, mkD ("_law_fails", none) "_law_fails" "_law_fails" s__law_fails, mkD ("_law_after", none) "_law_after" "_law_after" s__law_after, mkD ("_law_pairs", none) "_law_pairs" "_law_pairs" s__law_pairs, mkD ("_law_is_subtalk", none) "_law_is_subtalk" "_law_is_subtalk" s__law_is_subtalk, mkD ("_law_blank", none) "_law_blank" "_law_blank" s__law_blank, mkD ("_law_whole", none) "_law_whole" "_law_whole" s__law_whole, mkD ("_law_end", none) "_law_end" "_law_end" s__law_end, mkD ("_law_running", none) "_law_running" "_law_running" s__law_running, mkD ("_law_is_side", none) "_law_is_side" "_law_is_side" s__law_is_side, mkD ("_law_may_open", none) "_law_may_open" "_law_may_open" s__law_may_open]
def fn2 : List He.DefD := [mkD ("_law_may_say", none) "_law_may_say" "_law_may_say" s__law_may_say, mkD ("_law_like", none) "_law_like" "_law_like" s__law_like, mkD ("_law_may_here", none) "_law_may_here" "_law_may_here" s__law_may_here, mkD ("_law_may", none) "_law_may" "_law_may" s__law_may, mkD ("_law_leave", none) "_law_leave" "_law_leave" s__law_leave, mkD ("_law_do", none) "_law_do" "_law_do" s__law_do, mkD ("_law_message", none) "_law_message" "_law_message" s__law_message, mkD ("_law_payload", none) "_law_payload" "_law_payload" s__law_payload, mkD ("_law_say", none) "_law_say" "_law_say" s__law_say, mkD ("_law_moves", none) "_law_moves" "_law_moves" s__law_moves, mkD ("_law_event", none) "_law_event" "_law_event" s__law_event, mkD ("_law_other", none) "_law_other" "_law_other" s__law_other, mkD ("_law_path", none) "_law_path" "_law_path" s__law_path, mkD ("_law_side_right", none) "_law_side_right" "_law_side_right" s__law_side_right, mkD ("_law_about", none) "_law_about" "_law_about" s__law_about, mkD ("_law_all_right", none) "_law_all_right" "_law_all_right" s__law_all_right, mkD ("law", none) "law" "law" s_law, mkD ("Ledger", some "__init__") "__init__" "Ledger.__init__" s_Ledger___init__, mkD ("Ledger", some "allows") "allows" "Ledger.allows" s_Ledger_allows, mkD ("Ledger", some "_is_running") "_is_running" "Ledger._is_running" s_Ledger__is_running]
def fn3 : List He.DefD := [mkD ("Ledger", some "_allows_open") "_allows_open" "Ledger._allows_open" s_Ledger__allows_open, mkD ("Ledger", some "_allows_at") "_allows_at" "Ledger._allows_at" s_Ledger__allows_at, mkD ("Ledger", some "_is_payload") "_is_payload" "Ledger._is_payload" s_Ledger__is_payload, mkD ("Ledger", some "_is_oldest") "_is_oldest" "Ledger._is_oldest" s_Ledger__is_oldest, mkD ("Ledger", some "enter") "enter" "Ledger.enter" s_Ledger_enter, mkD ("Ledger", some "_enter_open") "_enter_open" "Ledger._enter_open" s_Ledger__enter_open, mkD ("Ledger", some "_enter_at") "_enter_at" "Ledger._enter_at" s_Ledger__enter_at, mkD ("Ledger", some "_say") "_say" "Ledger._say" s_Ledger__say, mkD ("Ledger", some "_hear") "_hear" "Ledger._hear" s_Ledger__hear, mkD ("Ledger", some "_leave") "_leave" "Ledger._leave" s_Ledger__leave, mkD ("Ledger", some "owed") "owed" "Ledger.owed" s_Ledger_owed, mkD ("Ledger", some "finished") "finished" "Ledger.finished" s_Ledger_finished]
def fn : List He.DefD := fn0 ++ fn1 ++ fn2 ++ fn3
def fa0 : List He.Fa := [.glo "is_reference", .glo "dual_kind", .glo "dual", .glo "head", .glo "row_of", .glo "is_talk_kind", .glo "asked_rows", .glo "payload_pair", .glo "reason_at", .glo "reached_pairs", .glo "wrong_path", .glo "is_subtalk", .glo "is_whole", .glo "is_end", .glo "is_kind", .glo "ends_of", .glo "judge", .glo "_law_wide", .glo "_law_take", .glo "_law_pool"]
def fa1 : List He.Fa := [.glo "_law_names", .glo "_law_kind", .glo "_law_label", .glo "_law_talk", .glo "_law_table", .glo "_law_dual", .glo "_law_head", .glo "_law_row", .glo "_law_kinds", .glo "_law_asked", .glo "_law_fails", .glo "_law_after", .glo "_law_pairs", .glo "_law_is_subtalk", .glo "_law_blank", .glo "_law_whole", .glo "_law_end", .glo "_law_running", .glo "_law_is_side", .glo "_law_may_open"]
def fa2 : List He.Fa := [.glo "_law_may_say", .glo "_law_like", .glo "_law_may_here", .glo "_law_may", .glo "_law_leave", .glo "_law_do", .glo "_law_message", .glo "_law_payload", .glo "_law_say", .glo "_law_moves", .glo "_law_event", .glo "_law_other", .glo "_law_path", .glo "_law_side_right", .glo "_law_about", .glo "_law_all_right", .glo "law", .free "isinstance", .free "int", .free "bool"]
def fa3 : List He.Fa := [.free "str", .free "tuple", .free "len", .free "range", .free "dict", .free "list", .free "sorted", .free "abs", .free "reversed", .glo "Ledger", .cls "Ledger", .mkr "Ledger", .glo "PARTS", .int "MOST" 65535, .noat "Ledger" "_table", .noat "Ledger" "_talks", .noat "Ledger" "_marks", .noat "Ledger" "_boxes", .noat "Ledger" "_opened", .noat "Ledger" "_finished"]
def fa4 : List He.Fa := [.noat "Ledger" "_owed", .meth "Ledger" "allows", .meth "Ledger" "_is_running", .meth "Ledger" "_allows_open", .meth "Ledger" "_allows_at", .meth "Ledger" "_is_payload", .meth "Ledger" "_is_oldest", .meth "Ledger" "enter", .meth "Ledger" "_enter_open", .meth "Ledger" "_enter_at", .meth "Ledger" "_say", .meth "Ledger" "_hear", .meth "Ledger" "_leave", .meth "Ledger" "owed", .meth "Ledger" "finished"]
def fa : List He.Fa := fa0 ++ fa1 ++ fa2 ++ fa3 ++ fa4
def partKeys : List Str := ["open", "say", "hear", "told", "close", "drop", "become", "done", "fall"]
def partKvs : List (Str × He.Dv) := [("open", .int 5), ("say", .int 5), ("hear", .int 5), ("told", .int 3), ("close", .int 3), ("drop", .int 3), ("become", .int 3), ("done", .int 2), ("fall", .int 2)]
def tabs : List He.Tab := [(fun K => He.ga K "PARTS", partKeys)]
def exB (K : PySem.W.Frag) : Bool := He.valsB K (He.ga K "PARTS") partKvs && (match PySem.W.nsIn K (He.ga K "PARTS") "fal" with | some none => true | _ => false)
abbrev LAWAT : Nat := 68
def loose0 : List Str := ["_wall", "__name__", "Refused", "Misused", "is_reference", "dual_kind", "dual", "head", "row_of", "is_talk_kind", "asked_rows", "payload_pair", "reason_at", "reached_pairs", "wrong_path", "is_subtalk", "PARTS", "MOST", "is_whole", "is_end"]
def loose1 : List Str := ["is_kind", "ends_of", "Ledger", "judge", "_law_wide", "_law_take", "_law_pool", "_law_names", "_law_kind", "_law_label", "_law_talk", "_law_table", "_law_dual", "_law_head", "_law_row", "_law_kinds", "_law_asked", "_law_fails", "_law_after", "_law_pairs"]
def loose2 : List Str := ["_law_is_subtalk", "_law_blank", "_law_whole", "_law_end", "_law_running", "_law_is_side", "_law_may_open", "_law_may_say", "_law_like", "_law_may_here", "_law_may", "_law_leave", "_law_do", "_law_message", "_law_payload", "_law_say", "_law_moves", "_law_event", "_law_other", "_law_path"]
def loose3 : List Str := ["_law_side_right", "_law_about", "_law_all_right"]
def loose : List Str := loose0 ++ loose1 ++ loose2 ++ loose3

/-! ### the head's Hook: only what the facts need -/
def refsK (o : Obj) : List Addr := match o.data with
  | .dict es _ => es.toList.flatMap fun e => He.refV e.val
  | .func fd => He.refV fd.code
  | .cls cd => cd.ns :: cd.mro.flatMap He.refV
  | _ => []
def nextK (g : Addr → Option Obj) (as : List Addr) : List Addr := as.flatMap fun a => match g a with
  | some o => refsK o
  | none => []
def asK (g : Addr → Option Obj) : Nat → List Addr → List Addr
  | 0, as => as
  | n + 1, as => as ++ asK g n (nextK g as)
def obsK (g : Addr → Option Obj) : He.AlX := (fun K => (He.obsT fa fn tabs K, exB K)) (He.frG g (asK g 4 [mainGlobals]))
def hk : PySem.W.Hook where
  α := He.AlX
  obs := fun s => obsK s.heap.get?
  val := fun w => He.valX fn tabs w
  says := fun w h => ∃ K : PySem.W.Frag, K.In h ∧ He.SaysT fa fn tabs w K ∧ exB K = true
  of := fun _ _ e => ⟨_, He.frG_in, congrArg (fun z : He.AlX => z.1) e, congrArg (fun z : He.AlX => z.2) e⟩
  keeps := fun _ _ _ ⟨K, hK, c⟩ k => ⟨K, PySem.W.Frag.In.keeps hK k, c⟩
abbrev R : PySem.W.OpenRow := PySem.W.OpenLaw.row PySem.Challenge.rw_pourparler_k49_whole_accepted_traces
def ob (s : PySem.W.SharedT) : He.AlX := obsK (HandSHeadRun.getT s)
theorem ob_eq (s : PySem.W.SharedT) : ob s = hk.obs s.abs := by
  have e : HandSHeadRun.getT s = s.abs.heap.get? := funext fun a => HandSHeadRun.getT_eq s a
  show obsK (HandSHeadRun.getT s) = obsK s.abs.heap.get?
  rw [e]
theorem run (w : World) : HandSHeadRun.RunEq R (PySem.W.view R.prog [LAWAT]) hk ob 4000 loose w :=
  PySem.W.byRow2 "special-get-raises" (P := fun w => HandSHeadRun.RunEq R (PySem.W.view R.prog [LAWAT]) hk ob 4000 loose w)
    (fun w => by intro os; kernel_rfl) (fun w => by intro os; kernel_rfl) w
end K49
section
open PySem PySem.W PySem.Calls PyProof.Rows
theorem K49.head_end (F : ∀ (w : World) (mg : PySem.Str → Option PySem.Value) (f : Addr) (h : Heap), K49.hk.says w h → h.Ns mainGlobals mg → mg ("law" : PySem.Str) = some (.ref f) →
    ∃ (K : PySem.W.Frag) (fd : FuncData) (sp : L2.Sp), K.In h ∧ (∀ (s : Shared) (u : PySem.Value), BindsTo s fd ⟨[u], []⟩ [("_law_script", u)]) ∧
      (∀ (H : L2.Hp) (a : Addr) (ns : List Int), ns.length ≤ 63 → L2.Only H → L2.SqL K H a (ns.map L2.V.int) → sp [.ref a] H (fun v _ => v = .bl true) fun _ _ _ => False) ∧
      ∀ base : Heap, K.In base → base.Ns mainGlobals mg → L2.FnOk (PySem.Challenge.rw_pourparler_k49_whole_accepted_traces).prog w K mg base L2.CX0 15 f fd ["_law_script"] sp) : PySem.Challenge.rw_pourparler_k49_whole_accepted_traces.Holds := by
  w_on; o_law
  refine HandSHeadRun.head_any (r := OpenLaw.row PySem.Challenge.rw_pourparler_k49_whole_accepted_traces) (q := view (OpenLaw.row PySem.Challenge.rw_pourparler_k49_whole_accepted_traces).prog [K49.LAWAT]) (H := K49.hk) (ob := K49.ob) (M := 4000) (loose := K49.loose) (d := HandSHeadRun.topDef (OpenLaw.row PySem.Challenge.rw_pourparler_k49_whole_accepted_traces).prog K49.LAWAT) (kwd := []) K49.ob_eq
    (by kernel_rfl) (fun s => by kernel_rfl) K49.run (by kernel_rfl) (by kernel_rfl) (by kernel_rfl) (by rfl) (by first | assumption | decide +kernel) (by decide +kernel) ⟨rfl, rfl, rfl, rfl, rfl, by decide +kernel⟩ ?hw ?hc
  case hw => w_witness2
  case hc =>
    refine L2.walk_ofE (l := PySem.Challenge.rw_pourparler_k49_whole_accepted_traces) (n := 63) (k := 15) (x := "_law_script") (CX := L2.CX0) rfl (by decide) (by kernel_rfl) ⟨rfl, by decide, by decide⟩ ?F (fun _ _ _ _ z => z)
    intro w mg fa h Y G hmg0
    have hmg : mg ("law" : PySem.Str) = some (.ref fa) := by
      have e : (HandSHeadRun.topDef (OpenLaw.row PySem.Challenge.rw_pourparler_k49_whole_accepted_traces).prog K49.LAWAT).name = ("law" : PySem.Str) := by kernel_rfl
      rw [← e]
      exact hmg0
    exact F w mg fa h Y G hmg
end
namespace K49
open PySem PySem.Spec PyProof.Rows L2
/-! ## 1. Data that stand in a region S of the heap -/
abbrev PD := PyData
abbrev Hx (S H : Hp) : Prop := Same S H
mutual
inductive Dt (S : Hp) : V → PD → Prop
  | non : Dt S .non .none
  | bl (b : Bool) : Dt S (.bl b) (.bool b)
  | int (i : Int) : Dt S (.int i) (.int i)
  | str (x : Str) : Dt S (.str x) (.str x)
  | lst {a : Addr} {xs : List V} {ds : List PD} : S a = some (.lst xs) → DtAll S xs ds → Dt S (.ref a) (.list ds)
  | tup {a : Addr} {xs : List V} {ds : List PD} : S a = some (.tup xs) → DtAll S xs ds → Dt S (.ref a) (.tuple ds)
inductive DtAll (S : Hp) : List V → List PD → Prop
  | nil : DtAll S [] []
  | cons {v : V} {vs : List V} {d : PD} {ds : List PD} : Dt S v d → DtAll S vs ds → DtAll S (v :: vs) (d :: ds)
end
/- neither lists nor dicts within -/
mutual
def imm : PD → Bool
  | .none => true
  | .bool _ => true
  | .int _ => true
  | .str _ => true
  | .tuple ds => immAll ds
  | .list _ => false
  | .dict _ => false
def immAll : List PD → Bool
  | [] => true
  | d :: ds => imm d && immAll ds
end
def isTup : HO → Bool
  | .tup _ => true
  | _ => false
/-- the tuples of S stand in S' -/
def Tups (S S' : Hp) : Prop := ∀ a xs, S a = some (.tup xs) → S' a = some (.tup xs)
theorem Same.tups {S S' : Hp} (h : Same S S') : Tups S S' := fun a xs e => h a _ e
mutual
theorem Dt.mono {S S' : Hp} (h : Same S S') : ∀ (d : PD) (v : V), Dt S v d → Dt S' v d
  | .none, _, x => by cases x; exact .non
  | .bool _, _, x => by cases x; exact .bl _
  | .int _, _, x => by cases x; exact .int _
  | .str _, _, x => by cases x; exact .str _
  | .list ds, _, x => by
    cases x with
    | lst e q => exact .lst (h _ _ e) (DtAll.mono h ds _ q)
  | .tuple ds, _, x => by
    cases x with
    | tup e q => exact .tup (h _ _ e) (DtAll.mono h ds _ q)
  | .dict _, _, x => by cases x
theorem DtAll.mono {S S' : Hp} (h : Same S S') : ∀ (ds : List PD) (vs : List V), DtAll S vs ds → DtAll S' vs ds
  | [], _, x => by cases x; exact .nil
  | d :: ds, _, x => by
    cases x with
    | cons a b => exact .cons (Dt.mono h d _ a) (DtAll.mono h ds _ b)
end
mutual
theorem Dt.imm {S S' : Hp} (h : Tups S S') : ∀ (d : PD) (v : V), imm d = true → Dt S v d → Dt S' v d
  | .none, _, _, x => by cases x; exact .non
  | .bool _, _, _, x => by cases x; exact .bl _
  | .int _, _, _, x => by cases x; exact .int _
  | .str _, _, _, x => by cases x; exact .str _
  | .list ds, _, i, _ => by simp [K49.imm] at i
  | .tuple ds, _, i, x => by
    cases x with
    | tup e q => exact .tup (h _ _ e) (DtAll.imm h ds _ (by simpa [K49.imm] using i) q)
  | .dict _, _, _, x => by cases x
theorem DtAll.imm {S S' : Hp} (h : Tups S S') : ∀ (ds : List PD) (vs : List V), immAll ds = true → DtAll S vs ds → DtAll S' vs ds
  | [], _, _, x => by cases x; exact .nil
  | d :: ds, _, i, x => by
    have i' : K49.imm d = true ∧ immAll ds = true := by simpa [immAll] using i
    cases x with
    | cons a b => exact .cons (Dt.imm h d _ i'.1 a) (DtAll.imm h ds _ i'.2 b)
end
mutual
theorem Dt.dp {K : PySem.W.Frag} {S H : Hp} (h : Same S H) : ∀ (d : PD) (v : V), Dt S v d → Dp K H v d
  | .none, _, x => by cases x; exact .non
  | .bool _, _, x => by cases x; exact .bl _
  | .int _, _, x => by cases x; exact .int _
  | .str _, _, x => by cases x; exact .str _
  | .list ds, _, x => by
    cases x with
    | lst e q => exact .lst (Or.inl (Or.inl (h _ _ e))) (DtAll.dp h ds _ q)
  | .tuple ds, _, x => by
    cases x with
    | tup e q => exact .tup (Or.inl (Or.inl (h _ _ e))) (DtAll.dp h ds _ q)
  | .dict _, _, x => by cases x
theorem DtAll.dp {K : PySem.W.Frag} {S H : Hp} (h : Same S H) : ∀ (ds : List PD) (vs : List V), DtAll S vs ds → DpAll K H vs ds
  | [], _, x => by cases x; exact .nil
  | d :: ds, _, x => by
    cases x with
    | cons a b => exact .cons (Dt.dp h d _ a) (DtAll.dp h ds _ b)
end
theorem DtAll.length {S : Hp} : ∀ {vs : List V} {ds : List PD}, DtAll S vs ds → vs.length = ds.length
  | _, [], x => by cases x; rfl
  | _, d :: ds, x => by
    cases x with
    | cons a b => simp [DtAll.length b]
theorem DtAll.get {S : Hp} : ∀ {vs : List V} {ds : List PD} {i : Nat} {d : PD}, DtAll S vs ds → ds[i]? = some d → ∃ v, vs[i]? = some v ∧ Dt S v d
  | _, [], _, _, x, e => by simp at e
  | _, d :: ds, 0, _, x, e => by
    cases x with
    | cons a b => simp at e; subst e; exact ⟨_, rfl, a⟩
  | _, d :: ds, i + 1, _, x, e => by
    cases x with
    | cons a b =>
      obtain ⟨v, h1, h2⟩ := DtAll.get (i := i) b (by simpa using e)
      exact ⟨v, by simpa using h1, h2⟩
theorem DtAll.get' {S : Hp} : ∀ {vs : List V} {ds : List PD} {i : Nat} {v : V}, DtAll S vs ds → vs[i]? = some v → ∃ d, ds[i]? = some d ∧ Dt S v d
  | _, [], _, _, x, e => by cases x; simp at e
  | _, d :: ds, 0, _, x, e => by
    cases x with
    | cons a b => simp at e; subst e; exact ⟨_, rfl, a⟩
  | _, d :: ds, i + 1, _, x, e => by
    cases x with
    | cons a b =>
      obtain ⟨v, h1, h2⟩ := DtAll.get' (i := i) b (by simpa using e)
      exact ⟨v, by simpa using h1, h2⟩
theorem DtAll.append {S : Hp} : ∀ {vs ws : List V} {ds es : List PD}, DtAll S vs ds → DtAll S ws es → DtAll S (vs ++ ws) (ds ++ es)
  | _, _, [], _, x, y => by cases x; exact y
  | _, _, d :: ds, _, x, y => by
    cases x with
    | cons a b => exact .cons a (DtAll.append b y)
theorem DtAll.snoc {S : Hp} {vs : List V} {v : V} {ds : List PD} {d : PD} (h : DtAll S vs ds) (g : Dt S v d) : DtAll S (vs ++ [v]) (ds ++ [d]) := h.append (.cons g .nil)
theorem DtAll.drop {S : Hp} : ∀ (n : Nat) {vs : List V} {ds : List PD}, DtAll S vs ds → DtAll S (vs.drop n) (ds.drop n)
  | 0, _, _, x => x
  | _ + 1, _, [], x => by cases x; exact .nil
  | n + 1, _, _ :: _, x => by
    cases x with
    | cons a b => exact DtAll.drop n b
theorem DtAll.take {S : Hp} : ∀ (n : Nat) {vs : List V} {ds : List PD}, DtAll S vs ds → DtAll S (vs.take n) (ds.take n)
  | 0, _, _, _ => .nil
  | _ + 1, _, [], x => by cases x; exact .nil
  | n + 1, _, _ :: _, x => by
    cases x with
    | cons a b => exact .cons a (DtAll.take n b)
theorem DtAll.reverse {S : Hp} : ∀ {vs : List V} {ds : List PD}, DtAll S vs ds → DtAll S vs.reverse ds.reverse
  | _, [], x => by cases x; exact .nil
  | _, d :: ds, x => by
    cases x with
    | cons a b => rw [List.reverse_cons, List.reverse_cons]; exact (DtAll.reverse b).snoc a
theorem DtAll.set {S : Hp} {v : V} {d : PD} (g : Dt S v d) : ∀ (n : Nat) {vs : List V} {ds : List PD}, DtAll S vs ds → DtAll S (vs.set n v) (ds.set n d)
  | _, _, [], x => by cases x; exact .nil
  | 0, _, _ :: _, x => by
    cases x with
    | cons a b => exact .cons g b
  | n + 1, _, _ :: _, x => by
    cases x with
    | cons a b => exact .cons a (DtAll.set g n b)
theorem immAll_iff : ∀ {ds : List PD}, immAll ds = true ↔ ∀ d ∈ ds, imm d = true
  | [] => by simp [immAll]
  | d :: ds => by simp [immAll, immAll_iff (ds := ds)]
theorem Dt.list_inv {S : Hp} {v : V} {ds : List PD} (h : Dt S v (.list ds)) : ∃ a xs, v = .ref a ∧ S a = some (.lst xs) ∧ DtAll S xs ds := by
  cases h with
  | lst e q => exact ⟨_, _, rfl, e, q⟩
theorem Dt.tup_inv {S : Hp} {v : V} {ds : List PD} (h : Dt S v (.tuple ds)) : ∃ a xs, v = .ref a ∧ S a = some (.tup xs) ∧ DtAll S xs ds := by
  cases h with
  | tup e q => exact ⟨_, _, rfl, e, q⟩
theorem Dt.int_inv {S : Hp} {v : V} {i : Int} (h : Dt S v (.int i)) : v = .int i := by cases h; rfl
theorem Dt.str_inv {S : Hp} {v : V} {x : Str} (h : Dt S v (.str x)) : v = .str x := by cases h; rfl
theorem Dt.bl_inv {S : Hp} {v : V} {b : Bool} (h : Dt S v (.bool b)) : v = .bl b := by cases h; rfl
theorem Dt.non_inv {S : Hp} {v : V} (h : Dt S v .none) : v = .non := by cases h; rfl
/-! ## 2. What a name stands for -/
abbrev Pl := Int × Int
/-- talks, marks, mailboxes, finished actors, owed sides -/
structure Co where
  t : List (Pl × PD)
  m : List (Pl × PD)
  b : List (Pl × PD)
  f : List PD
  o : List PD
structure Led where
  tab : List (Str × PD)
  n : Int
  c : Co
inductive W
  | d (x : PD)
  | tb (kvs : List (Str × PD))
  | dt (kvs : List (Pl × PD))
  | st (s : Co)
  | lg (L : Led)
def pk (p : Pl) : List Key := [.inl p.1, .inl p.2]
def pd (p : Pl) : PD := .tuple [.int p.1, .int p.2]
abbrev KvT (S : Hp) : List (Pl × PD) → List (List Key × V) → Prop := Paired fun p q => q.1 = pk p.1 ∧ Dt S q.2 p.2
abbrev KvS (S : Hp) : List (Str × PD) → List (Key × V) → Prop := Paired fun p q => q.1 = Sum.inr p.1 ∧ Dt S q.2 p.2
theorem KvT.mono {S S' : Hp} (h : Same S S') {l : List (Pl × PD)} {k : List (List Key × V)} (r : KvT S l k) : KvT S' l k := Paired.mapP r fun p _ z => ⟨z.1, Dt.mono h p.2 _ z.2⟩
theorem KvS.mono {S S' : Hp} (h : Same S S') {l : List (Str × PD)} {k : List (Key × V)} (r : KvS S l k) : KvS S' l k := Paired.mapP r fun p _ z => ⟨z.1, Dt.mono h p.2 _ z.2⟩
def ledN : List Str := ["_table", "_talks", "_marks", "_boxes", "_opened", "_finished", "_owed"]
def RDt (S : Hp) (v : V) (kvs : List (Pl × PD)) : Prop := ∃ a ks, v = .ref a ∧ S a = some (.dT ks) ∧ KvT S kvs ks
def RTb (S : Hp) (v : V) (kvs : List (Str × PD)) : Prop := ∃ a ks, v = .ref a ∧ S a = some (.dK ks) ∧ KvS S kvs ks
theorem RDt.mono {S S' : Hp} (h : Same S S') {v : V} {kvs : List (Pl × PD)} : RDt S v kvs → RDt S' v kvs := fun ⟨a, ks, e, e2, r⟩ => ⟨a, ks, e, h _ _ e2, KvT.mono h r⟩
theorem RTb.mono {S S' : Hp} (h : Same S S') {v : V} {kvs : List (Str × PD)} : RTb S v kvs → RTb S' v kvs := fun ⟨a, ks, e, e2, r⟩ => ⟨a, ks, e, h _ _ e2, KvS.mono h r⟩
def RSt (S : Hp) (v : V) (s : Co) : Prop := ∃ a t m b f o, v = .ref a ∧ S a = some (.lst [t, m, b, f, o]) ∧ RDt S t s.t ∧ RDt S m s.m ∧ RDt S b s.b ∧ Dt S f (.list s.f) ∧ Dt S o (.list s.o)
def RLg (C : Addr) (S : Hp) (v : V) (L : Led) : Prop := ∃ a dx fs tb t m b f o, v = .ref a ∧ S a = some (.ins C dx fs) ∧ fs.lookup ("_table" : Str) = some tb ∧ fs.lookup ("_talks" : Str) = some t ∧ fs.lookup ("_marks" : Str) = some m ∧
  fs.lookup ("_boxes" : Str) = some b ∧ fs.lookup ("_opened" : Str) = some (.int L.n) ∧ fs.lookup ("_finished" : Str) = some f ∧ fs.lookup ("_owed" : Str) = some o ∧ fs.map (·.1) = ledN ∧
  RTb S tb L.tab ∧ RDt S t L.c.t ∧ RDt S m L.c.m ∧ RDt S b L.c.b ∧ Dt S f (.list L.c.f) ∧ Dt S o (.list L.c.o)
def Rep (C : Addr) (S : Hp) (v : V) : W → Prop
  | .d x => Dt S v x
  | .tb kvs => RTb S v kvs
  | .dt kvs => RDt S v kvs
  | .st s => RSt S v s
  | .lg L => RLg C S v L
theorem Rep.mono {C : Addr} {S S' : Hp} (h : Same S S') {v : V} : ∀ {w : W}, Rep C S v w → Rep C S' v w
  | .d x, r => Dt.mono h x _ r
  | .tb _, r => RTb.mono h r
  | .dt _, r => RDt.mono h r
  | .st _, ⟨a, t, m, b, f, o, e, e2, r1, r2, r3, r4, r5⟩ => ⟨a, t, m, b, f, o, e, h _ _ e2, r1.mono h, r2.mono h, r3.mono h, r4.mono h, r5.mono h⟩
  | .lg _, ⟨a, dx, fs, tb, t, m, b, f, o, e, e2, l1, l2, l3, l4, l5, l6, l7, lm, r0, r1, r2, r3, r4, r5⟩ => ⟨a, dx, fs, tb, t, m, b, f, o, e, h _ _ e2, l1, l2, l3, l4, l5, l6, l7, lm, r0.mono h, r1.mono h, r2.mono h, r3.mono h, r4.mono h, r5.mono h⟩
/-! ## 3. A def's names: slots, the state they describe -/
/-- where one's own state lies: its head, talks, marks, boxes, finished, owed; the mailboxes -/
structure Ad where
  a : Addr
  t : Addr
  m : Addr
  b : Addr
  f : Addr
  o : Addr
  bl : List Addr
def Ad.fp (A : Ad) : List Addr := A.a :: A.t :: A.m :: A.b :: A.f :: A.o :: A.bl
inductive Slot
  | r (w : W)
  | l (ds : List PD)
  | pool
  | otb (kvs : List (Str × PD))
  | ost (A : Ad) (s : Co)
  | olg (A : Ad) (L : Led)
abbrev En := List (Option Slot)
def KvB (H S : Hp) : List (Pl × PD) → List (List Key × V) → List Addr → Prop
  | [], [], [] => True
  | p :: ps, q :: qs, a :: as => (q.1 = pk p.1 ∧ q.2 = .ref a ∧ ∃ vs ds, H a = some (.lst vs) ∧ p.2 = .list ds ∧ DtAll S vs ds) ∧ KvB H S ps qs as
  | _, _, _ => False
structure OCo (H S : Hp) (t m b f o : Addr) (bl : List Addr) (c : Co) : Prop where
  t : ∃ ks, H t = some (.dT ks) ∧ KvT S c.t ks
  m : ∃ ks, H m = some (.dT ks) ∧ KvT S c.m ks
  b : ∃ ks, H b = some (.dT ks) ∧ KvB H S c.b ks bl ∧ (c.b.map (·.1)).Nodup
  f : ∃ vs, H f = some (.lst vs) ∧ DtAll S vs c.f
  o : ∃ vs, H o = some (.lst vs) ∧ DtAll S vs c.o
def ledF (tb t m b : V) (n : Int) (f o : V) : List (Str × V) := [("_table", tb), ("_talks", t), ("_marks", m), ("_boxes", b), ("_opened", .int n), ("_finished", f), ("_owed", o)]
/-- a def's frame: the contexts that it stands for (one; or those of a comprehension's block), names, what is visible, globals; the Ledger's class; where the pool stands -/
structure Ctx where
  F : Cx → Prop
  P : Program
  w : World
  K : PySem.W.Frag
  mg : Str → Option Value
  base : Heap
  k : Nat
  N : List Str
  Vi : Str → Prop
  Lo : Str → Prop
  G : List Str
  C : Addr
  pl : Option (Addr × Addr)
structure COk (c : Ctx) : Prop where
  N : ∀ X, c.F X → X.N = c.N
  nd : c.N.Nodup
  eqs : ∀ X, c.F X → X.prog = c.P ∧ X.w = c.w ∧ X.K = c.K ∧ X.mg = c.mg ∧ X.base = c.base
  vis : ∀ X, c.F X → ∀ x, c.Vi x → Vis X.env.scope x
  gl : ∀ X, c.F X → ∀ x ∈ c.G, Gl X x
  calm : ∀ X, c.F X → X.calm = true
  room : ∀ X, c.F X → Room c.k X.A
  loc : ∀ X, c.F X → ∀ x, c.Lo x → Loc X.env.scope x ∧ (X.fn x = true ∨ X.env.scope.names.lookup x = some .local)
  lov : ∀ x, c.Lo x → c.Vi x
  dbg : ∀ x, c.Vi x → (x == ("__debug__" : Str)) = false ∧ (x == ("__classdict__" : Str)) = false
  dbgG : ∀ x ∈ c.G, (x == ("__debug__" : Str)) = false ∧ x ≠ "__name__"
  own : ∀ X, c.F X → PassesOwn (model X.prog X.w) X.A X.env X.xe
def PoolAt (H : Hp) (p q : Addr) : Prop := p ≠ q ∧ ∃ (n : Int) (k : Nat) (ns : List Int), H p = some (.lst [.int n, .ref q, .int ((k : Int) - 1)]) ∧ H q = some (.lst (ns.map V.int))
def SRep (c : Ctx) (H S : Hp) (v : V) (fp : List Addr) : Slot → Prop
  | .r w => Rep c.C S v w
  | .l ds => ∃ p vs, v = .ref p ∧ H p = some (.lst vs) ∧ DtAll S vs ds ∧ fp = [p]
  | .pool => ∃ p q, v = .ref p ∧ c.pl = some (p, q)
  | .otb kvs => ∃ p ks, v = .ref p ∧ H p = some (.dK ks) ∧ KvS S kvs ks ∧ fp = [p]
  | .ost A s => v = .ref A.a ∧ H A.a = some (.lst [.ref A.t, .ref A.m, .ref A.b, .ref A.f, .ref A.o]) ∧ OCo H S A.t A.m A.b A.f A.o A.bl s ∧ fp = A.fp ∧ fp.Nodup
  | .olg A L => ∃ dx tb, v = .ref A.a ∧ H A.a = some (.ins c.C dx (ledF tb (.ref A.t) (.ref A.m) (.ref A.b) L.n (.ref A.f) (.ref A.o))) ∧ RTb S tb L.tab ∧ OCo H S A.t A.m A.b A.f A.o A.bl L.c ∧ fp = A.fp ∧ fp.Nodup
/-- the state that an environment describes: S the region of what stands still, B what is to be kept, Z what may not come into S -/
structure ER (c : Ctx) (B : Hp) (Z : Addr → Prop) (H S : Hp) (fp : Nat → List Addr) (σ : L2.St) (env : En) : Prop where
  len : σ.length = env.length
  sub : Same S H
  prot : Same B H
  forb : ∀ a, Z a → ∀ o, S a = some o → isTup o = true
  zin : ∀ a, Z a → H a ≠ none
  slot : ∀ (i : Nat) s, env[i]? = some (some s) → ∃ v, σ[i]? = some (some v) ∧ SRep c H S v (fp i) s
  out : ∀ (i : Nat) a, a ∈ fp i → S a = none ∧ B a = none ∧ ¬ Z a ∧ ∃ o, H a = some o ∧ isTup o = false
  sep : ∀ (i j : Nat) a, a ∈ fp i → a ∈ fp j → i = j
  vis : ∀ (i : Nat) s x, env[i]? = some (some s) → c.N[i]? = some x → c.Vi x
  pool : ∀ p q, c.pl = some (p, q) → PoolAt H p q ∧ (∀ a, a = p ∨ a = q → S a = none ∧ B a = none ∧ ¬ Z a ∧ ∀ i : Nat, a ∉ fp i)
/-- what a slot's description leans on -/
theorem SRep.stay {c : Ctx} {H H' S S' : Hp} {v : V} {fp : List Addr} {s : Slot} (h : SRep c H S v fp s) (hS : Same S S') (hH : ∀ a ∈ fp, H' a = H a) : SRep c H' S' v fp s := by
  have oco : ∀ {t m b f o : Addr} {bl : List Addr} {co : Co}, (∀ x ∈ t :: m :: b :: f :: o :: bl, H' x = H x) → OCo H S t m b f o bl co → OCo H' S' t m b f o bl co := by
    intro t m b f o bl c hh q
    obtain ⟨⟨k1, e1, r1⟩, ⟨k2, e2, r2⟩, ⟨k3, e3, r3, r3n⟩, ⟨k4, e4, r4⟩, ⟨k5, e5, r5⟩⟩ := q
    refine ⟨⟨k1, by rw [hh t (by simp), e1], r1.mono hS⟩, ⟨k2, by rw [hh m (by simp), e2], r2.mono hS⟩, ⟨k3, by rw [hh b (by simp), e3], ?_, r3n⟩, ⟨k4, by rw [hh f (by simp), e4], DtAll.mono hS _ _ r4⟩, ⟨k5, by rw [hh o (by simp), e5], DtAll.mono hS _ _ r5⟩⟩
    have kb : ∀ (ps : List (Pl × PD)) (qs : List (List Key × V)) (as : List Addr), (∀ x ∈ as, H' x = H x) → KvB H S ps qs as → KvB H' S' ps qs as := by
      intro ps
      induction ps with
      | nil => intro qs as _ z; cases qs <;> cases as <;> first | trivial | exact z.elim
      | cons p ps ih =>
        intro qs as ha z
        cases qs with
        | nil => exact z.elim
        | cons q qs =>
          cases as with
          | nil => exact z.elim
          | cons a as =>
            obtain ⟨⟨z1, z2, vs, ds, z3, z4, z5⟩, z6⟩ := z
            exact ⟨⟨z1, z2, vs, ds, by rw [ha a (by simp)]; exact z3, z4, DtAll.mono hS _ _ z5⟩, ih _ _ (fun x hx => ha x (by simp [hx])) z6⟩
    exact kb _ _ _ (fun x hx => hh x (by simp [hx])) r3
  cases s with
  | r w => exact Rep.mono hS (show Rep c.C S v w from h)
  | l ds =>
    obtain ⟨p, vs, e1, e2, e3, e4⟩ := h
    exact ⟨p, vs, e1, by rw [hH p (by rw [e4]; simp)]; exact e2, DtAll.mono hS _ _ e3, e4⟩
  | pool => exact h
  | otb kvs =>
    obtain ⟨p, ks, e1, e2, e3, e4⟩ := h
    exact ⟨p, ks, e1, by rw [hH p (by rw [e4]; simp)]; exact e2, e3.mono hS, e4⟩
  | ost A c =>
    obtain ⟨e1, e2, e3, e4, e5⟩ := h
    exact ⟨e1, by rw [hH A.a (by rw [e4]; simp [Ad.fp])]; exact e2, oco (fun x hx => hH x (by rw [e4]; exact List.mem_cons_of_mem _ hx)) e3, e4, e5⟩
  | olg A L =>
    obtain ⟨dx, tb, e1, e2, et, e3, e4, e5⟩ := h
    exact ⟨dx, tb, e1, by rw [hH A.a (by rw [e4]; simp [Ad.fp])]; exact e2, et.mono hS, oco (fun x hx => hH x (by rw [e4]; exact List.mem_cons_of_mem _ hx)) e3, e4, e5⟩
theorem PoolAt.stay {H H' : Hp} {p q : Addr} (h : PoolAt H p q) (e1 : H' p = H p) (e2 : H' q = H q) : PoolAt H' p q := by
  obtain ⟨h1, n, k, ns, h2, h3⟩ := h
  exact ⟨h1, n, k, ns, e1.trans h2, e2.trans h3⟩
theorem PoolAt.there {H : Hp} {p q a : Addr} (h : PoolAt H p q) (ha : a = p ∨ a = q) : ∃ o, H a = some o ∧ isTup o = false := by
  obtain ⟨h1, n, k, ns, h2, h3⟩ := h
  rcases ha with rfl | rfl
  · exact ⟨_, h2, rfl⟩
  · exact ⟨_, h3, rfl⟩
section
variable {c : Ctx} {B : Hp} {Z : Addr → Prop} {H S H' S' : Hp} {fp : Nat → List Addr} {σ : L2.St} {env : En}
/-- all objects but the pool's are kept (the pool's still a pool), the region grown -/
theorem ER.growP (E : ER c B Z H S fp σ env) (hH : ∀ a o, H a = some o → (∀ p q, c.pl = some (p, q) → a ≠ p ∧ a ≠ q) → H' a = some o) (hP : ∀ p q, c.pl = some (p, q) → PoolAt H' p q) (hS : Same S S') (sub : Same S' H')
    (fr : ∀ a o, S' a = some o → S a = none → H a = none ∨ isTup o = true) : ER c B Z H' S' fp σ env := by
  have ne : ∀ {a : Addr} {o : HO}, H a = some o → ∃ o', H' a = some o' := fun {a o} e => by
    by_cases h : ∀ p q, c.pl = some (p, q) → a ≠ p ∧ a ≠ q
    · exact ⟨o, hH a o e h⟩
    · obtain ⟨p, h⟩ := Classical.not_forall.mp h
      obtain ⟨q, h⟩ := Classical.not_forall.mp h
      obtain ⟨hp, h⟩ := Classical.not_imp.mp h
      have h' : a = p ∨ a = q := by
        by_cases h1 : a = p
        · exact .inl h1
        · exact .inr (Classical.byContradiction fun h2 => h ⟨h1, h2⟩)
      obtain ⟨o', ho, _⟩ := (hP p q hp).there h'
      exact ⟨o', ho⟩
  have np : ∀ {i : Nat} {a : Addr}, a ∈ fp i → ∀ p q, c.pl = some (p, q) → a ≠ p ∧ a ≠ q := fun {i a} ha p q hp => by
    have h := (E.pool p q hp).2
    exact ⟨fun e => (h a (.inl e)).2.2.2 i ha, fun e => (h a (.inr e)).2.2.2 i ha⟩
  refine ⟨E.len, sub, fun a o e => ?_, fun a za o e => ?_, fun a za e => ?_, fun i s e => ?_, fun i a ha => ?_, E.sep, E.vis, fun p q hp => ⟨hP p q hp, fun a ha => ?_⟩⟩
  · refine hH a o (E.prot a o e) fun p q hp => ?_
    have h := (E.pool p q hp).2
    exact ⟨fun z => (by rw [(h a (.inl z)).2.1] at e; cases e), fun z => (by rw [(h a (.inr z)).2.1] at e; cases e)⟩
  · cases h : S a with
    | some u =>
      have q := hS a u h
      rw [e] at q; cases q
      exact E.forb a za _ h
    | none =>
      rcases fr a o e h with z | z
      · exact absurd z (E.zin a za)
      · exact z
  · cases h : H a with
    | none => exact E.zin a za h
    | some o =>
      obtain ⟨o', h'⟩ := ne h
      rw [h'] at e; cases e
  · obtain ⟨v, e1, e2⟩ := E.slot i s e
    refine ⟨v, e1, e2.stay hS fun a ha => ?_⟩
    obtain ⟨_, _, _, o, ho, _⟩ := E.out i a ha
    rw [ho, hH a o ho (np ha)]
  · obtain ⟨h1, h2, h3, o, ho, ht⟩ := E.out i a ha
    have hh := hH a o ho (np ha)
    refine ⟨?_, h2, h3, o, hh, ht⟩
    cases h : S' a with
    | none => rfl
    | some u =>
      rcases fr a u h h1 with z | z
      · rw [ho] at z; cases z
      · have q := sub a u h
        rw [hh] at q; cases q
        rw [ht] at z; cases z
  · obtain ⟨h1, h2, h3, h4⟩ := (E.pool p q hp).2 a ha
    refine ⟨?_, h2, h3, h4⟩
    cases h : S' a with
    | none => rfl
    | some u =>
      obtain ⟨o0, e0, _⟩ := (E.pool p q hp).1.there ha
      obtain ⟨o1, e1, t1⟩ := (hP p q hp).there ha
      rcases fr a u h h1 with z | z
      · rw [e0] at z; cases z
      · have q := sub a u h
        rw [e1] at q; cases q
        rw [t1] at z; cases z
/-- new objects, the region grown by some of them -/
theorem ER.grow (E : ER c B Z H S fp σ env) (hH : Same H H') (hS : Same S S') (sub : Same S' H') (fr : ∀ a o, S' a = some o → S a = none → H a = none ∨ isTup o = true) : ER c B Z H' S' fp σ env :=
  E.growP (fun a o e _ => hH a o e) (fun p q hp => by
    have h := (E.pool p q hp).1
    obtain ⟨o1, e1, _⟩ := h.there (.inl rfl)
    obtain ⟨o2, e2, _⟩ := h.there (.inr rfl)
    exact h.stay (by rw [e1, hH _ _ e1]) (by rw [e2, hH _ _ e2])) hS sub fr
theorem same_upd {H : Hp} {p : Addr} {o : HO} (h : H p = none) : Same H (upd H p o) := fun a u e => by
  rw [upd_ne (ne_of_none e h)]; exact e
/-- a new object comes into the region -/
theorem ER.laid (E : ER c B Z H S fp σ env) {p : Addr} {o : HO} (hp : H p = none) : ER c B Z (upd H p o) (upd S p o) fp σ env := by
  have hs : S p = none := E.sub.free hp
  refine E.grow (same_upd hp) (same_upd hs) (fun a u e => ?_) fun a u e h => ?_
  · by_cases h : a = p
    · subst h; rw [upd_same] at e ⊢; exact e
    · rw [upd_ne h] at e ⊢; exact E.sub a u e
  · by_cases h2 : a = p
    · subst h2; exact .inl hp
    · rw [upd_ne h2, h] at e; cases e
/-- a new object that stays outside -/
theorem ER.newH (E : ER c B Z H S fp σ env) {p : Addr} {o : HO} (hp : H p = none) : ER c B Z (upd H p o) S fp σ env :=
  E.grow (same_upd hp) (Same.refl S) (fun a u e => same_upd hp a u (E.sub a u e)) fun a o e h => by rw [h] at e; cases e
/-- p is claimed by nothing -/
structure Lone (c : Ctx) (B : Hp) (Z : Addr → Prop) (S : Hp) (fp : Nat → List Addr) (p : Addr) : Prop where
  s : S p = none
  b : B p = none
  z : ¬ Z p
  f : ∀ i : Nat, p ∉ fp i
  pl : ∀ x y, c.pl = some (x, y) → p ≠ x ∧ p ≠ y
theorem ER.lone (E : ER c B Z H S fp σ env) {p : Addr} (hp : H p = none) : Lone c B Z S fp p := by
  refine ⟨E.sub.free hp, E.prot.free hp, fun z => E.zin p z hp, fun i hi => ?_, fun x y h => ?_⟩
  · obtain ⟨_, _, _, o, ho, _⟩ := E.out i p hi
    rw [hp] at ho; cases ho
  · have g := (E.pool x y h).1
    exact ⟨fun e => (by obtain ⟨o, ho, _⟩ := g.there (.inl e); rw [hp] at ho; cases ho), fun e => (by obtain ⟨o, ho, _⟩ := g.there (.inr e); rw [hp] at ho; cases ho)⟩
/-- an object that nothing claims comes into the region -/
theorem ER.take (E : ER c B Z H S fp σ env) {p : Addr} {o : HO} (hp : H p = some o) (l : Lone c B Z S fp p) : ER c B Z H (upd S p o) fp σ env where
  len := E.len
  sub := fun a u e => by
    by_cases h : a = p
    · subst h; rw [upd_same] at e; cases e; exact hp
    · rw [upd_ne h] at e; exact E.sub a u e
  prot := E.prot
  forb := fun a za u e => by
    have h : a ≠ p := fun h => l.z (h ▸ za)
    rw [upd_ne h] at e; exact E.forb a za u e
  zin := E.zin
  slot := fun i s e => by
    obtain ⟨v, e1, e2⟩ := E.slot i s e
    exact ⟨v, e1, e2.stay (same_upd l.s) fun a _ => rfl⟩
  out := fun i a ha => by
    obtain ⟨h1, h2⟩ := E.out i a ha
    have h : a ≠ p := fun h => l.f i (h ▸ ha)
    exact ⟨by rw [upd_ne h]; exact h1, h2⟩
  sep := E.sep
  vis := E.vis
  pool := fun x y h => by
    obtain ⟨h1, h2⟩ := E.pool x y h
    refine ⟨h1, fun a ha => ?_⟩
    obtain ⟨q1, q2⟩ := h2 a ha
    have hne : a ≠ p := by
      obtain ⟨n1, n2⟩ := l.pl x y h
      rintro rfl
      rcases ha with e | e
      · exact n1 e
      · exact n2 e
    exact ⟨by rw [upd_ne hne]; exact q1, q2⟩
end
/-! ## 4. Expressions: readings by what runs -/
def sE (X : Cx) (e : Expr) : TE := fun σ H Q => ∀ pins s, Inv X pins σ H s → wpAny (model X.prog X.w) X.A (eval e X.env) (EP X pins σ Q) X.xe s
def sT (X : Cx) (e : Expr) : TT := fun σ H Q => ∀ pins s, Inv X pins σ H s → wpAny (model X.prog X.w) X.A (isTrue e X.env (eval e X.env)) (TP X pins σ Q) X.xe s
def sW (X : Cx) (e : Expr) : TT := fun σ H Q => ∀ (whole : Sem Value) pins s, Inv X pins σ H s → wpAny (model X.prog X.w) X.A (isTrue e X.env whole) (TP X pins σ Q) X.xe s
def sA (X : Cx) (es : List Expr) : TA := fun σ H Q => ∀ (pos : Pos) pins s, Inv X pins σ H s → wpAny (model X.prog X.w) X.A (spliced (backTo pos (starEach es X.env))) (AP X pins σ Q) X.xe s
def sS (X : Cx) (st : Stmt) : TS := fun D σ H => ∀ pins s, Inv X pins σ H s → wpAny (model X.prog X.w) X.A (exec st X.env) (SP X pins D) X.xe s
def sSs (X : Cx) (st : List Stmt) : TS := fun D σ H => ∀ pins s, Inv X pins σ H s → wpAny (model X.prog X.w) X.A (execs st X.env) (SP X pins D) X.xe s
section
variable {X : Cx} {e : Expr} {es : List Expr} {st : Stmt} {sts : List Stmt} {te : TE} {tt : TT} {ta : TA} {ts : TS} {σ : L2.St} {H : Hp}
theorem pE : PE X e (sE X e) := ⟨fun pins s _ _ _ I h => h pins s I⟩
theorem pT : PT X e (sT X e) := ⟨fun pins s _ _ _ I h => h pins s I⟩
theorem pW : PW X e (sW X e) := ⟨fun wh pins s _ _ _ I h => h wh pins s I⟩
theorem pA : PA X es (sA X es) := ⟨fun pos pins s _ _ _ I h => h pos pins s I⟩
theorem pS : PS X st (sS X st) := ⟨fun pins s _ _ _ I h => h pins s I⟩
theorem pSs : PSs X sts (sSs X sts) := ⟨fun pins s _ _ _ I h => h pins s I⟩
theorem oE {Q : VK} (h : PE X e te) (q : te σ H Q) : sE X e σ H Q := fun pins s I => h.run pins s σ H Q I q
theorem oT {Q : Bool → Hp → Prop} (h : PT X e tt) (q : tt σ H Q) : sT X e σ H Q := fun pins s I => h.run pins s σ H Q I q
theorem oW {Q : Bool → Hp → Prop} (h : PW X e tt) (q : tt σ H Q) : sW X e σ H Q := fun wh pins s I => h.run wh pins s σ H Q I q
theorem oA {Q : List V → Hp → Prop} (h : PA X es ta) (q : ta σ H Q) : sA X es σ H Q := fun pos pins s I => h.run pos pins s σ H Q I q
theorem oS {D : Ends} (h : PS X st ts) (q : ts D σ H) : sS X st D σ H := fun pins s I => h.run pins s σ H D I q
theorem oSs {D : Ends} (h : PSs X sts ts) (q : ts D σ H) : sSs X sts D σ H := fun pins s I => h.run pins s σ H D I q
end
/-- e evaluates to something that stands in the region, of which P holds -/
def DE (c : Ctx) (env : En) (e : Expr) (P : W → Prop) : Prop :=
  ∀ X, c.F X → ∀ B Z H S fp σ, ER c B Z H S fp σ env → ∀ Q : VK, (∀ w v H' S', P w → ER c B Z H' S' fp σ env → Same S S' → Rep c.C S' v w → Q v H') → sE X e σ H Q
/-- e evaluates to a new list -/
def DF (c : Ctx) (env : En) (e : Expr) (P : List PD → Prop) : Prop :=
  ∀ X, c.F X → ∀ B Z H S fp σ, ER c B Z H S fp σ env → ∀ Q : VK, (∀ ds p vs H' S', P ds → ER c B Z H' S' fp σ env → Same S S' → Lone c B Z S' fp p → H' p = some (.lst vs) → DtAll S' vs ds → Q (.ref p) H') → sE X e σ H Q
/-- a test -/
def DT (c : Ctx) (env : En) (e : Expr) (P : Bool → Prop) : Prop :=
  ∀ X, c.F X → ∀ B Z H S fp σ, ER c B Z H S fp σ env → ∀ Q : Bool → Hp → Prop, (∀ b H' S', P b → ER c B Z H' S' fp σ env → Same S S' → Q b H') → sT X e σ H Q
/-- .. of any whole (and, or) -/
def DW (c : Ctx) (env : En) (e : Expr) (P : Bool → Prop) : Prop :=
  ∀ X, c.F X → ∀ B Z H S fp σ, ER c B Z H S fp σ env → ∀ Q : Bool → Hp → Prop, (∀ b H' S', P b → ER c B Z H' S' fp σ env → Same S S' → Q b H') → sW X e σ H Q
/-- arguments -/
abbrev Reps (C : Addr) (S : Hp) : List V → List W → Prop := Paired fun v w => Rep C S v w
theorem Reps.mono {C : Addr} {S S' : Hp} (h : Same S S') {vs : List V} {ws : List W} (r : Reps C S vs ws) : Reps C S' vs ws := Paired.mapP r fun _ _ z => Rep.mono h z
def DA (c : Ctx) (env : En) (es : List Expr) (P : List W → Prop) : Prop :=
  ∀ X, c.F X → ∀ B Z H S fp σ, ER c B Z H S fp σ env → ∀ Q : List V → Hp → Prop, (∀ ws vs H' S', P ws → ER c B Z H' S' fp σ env → Same S S' → Reps c.C S' vs ws → Q vs H') → sA X es σ H Q
/-- .. all of them data -/
def DD (c : Ctx) (env : En) (es : List Expr) (P : List PD → Prop) : Prop :=
  ∀ X, c.F X → ∀ B Z H S fp σ, ER c B Z H S fp σ env → ∀ Q : List V → Hp → Prop, (∀ ds vs H' S', P ds → ER c B Z H' S' fp σ env → Same S S' → DtAll S' vs ds → Q vs H') → sA X es σ H Q
/-- two values, compared -/
def CR (c : Ctx) (env : En) (op : CmpOp) (a b : Expr) (P : Bool → Prop) : Prop :=
  ∀ X, c.F X → ∃ r, OpR X (compareOp op) r ∧ ∀ B Z H S fp σ, ER c B Z H S fp σ env → ∀ Q : VK, (∀ k H' S', P k → ER c B Z H' S' fp σ env → Same S S' → Q (.bl k) H') → tOp r (sE X a) (sE X b) σ H Q
section
variable {c : Ctx} {env : En}
theorem DE.imp {e : Expr} {P P' : W → Prop} (h : DE c env e P) (i : ∀ w, P w → P' w) : DE c env e P' := fun X hX B Z H S fp σ E Q q => h X hX B Z H S fp σ E Q fun w v H' S' p => q w v H' S' (i w p)
theorem de_of_df {e : Expr} {P : W → Prop} (h : DF c env e fun ds => P (.d (.list ds))) : DE c env e P := fun X hX B Z H S fp σ E Q q => h X hX B Z H S fp σ E Q fun ds p vs H' S' hd E' s n1 hl dt =>
  have s1 : Same S' (upd S' p (.lst vs)) := same_upd n1.s
  q (.d (.list ds)) (.ref p) H' (upd S' p (.lst vs)) hd (E'.take hl n1) (s.trans s1) (.lst upd_same (DtAll.mono s1 _ _ dt))
end
/-! ## 5. Rules for expressions -/
inductive Lk : List Str → En → Str → W → Prop
  | z {x : Str} {N : List Str} {w : W} {env : En} : Lk (x :: N) (some (.r w) :: env) x w
  | s {x y : Str} {N : List Str} {w : W} {e : Option Slot} {env : En} : Lk N env x w → Lk (y :: N) (e :: env) x w
theorem Lk.get {N : List Str} {env : En} {x : Str} {w : W} (h : Lk N env x w) : ∃ i : Nat, N[i]? = some x ∧ env[i]? = some (some (.r w)) := by
  induction h with
  | z => exact ⟨0, rfl, rfl⟩
  | s _ ih => obtain ⟨i, h1, h2⟩ := ih; exact ⟨i + 1, by simpa using h1, by simpa using h2⟩
def truD : PD → Option Bool
  | .none => some false
  | .bool b => some b
  | .int i => some (i != 0)
  | .list ds => some (!ds.isEmpty)
  | .tuple ds => some (!ds.isEmpty)
  | _ => none
def truW : W → Option Bool
  | .d x => truD x
  | .tb kvs => some (!kvs.isEmpty)
  | _ => none
section
variable {c : Ctx} {env : En} (ok : COk c) {N : List Str} {pos : Pos} {P : W → Prop} {a b e : Expr} {es : List Expr}
include ok
theorem COk.hu {X : Cx} (hX : c.F X) : X.A.units + 64 < cLine := (ok.room X hX).units
theorem COk.hu1 {X : Cx} (hX : c.F X) : X.A.units + 1 < cLine := by have := ok.hu hX; omega
theorem COk.hu65 {X : Cx} (hX : c.F X) : X.A.units + 65 < cLine := by have := (ok.room X hX).un; omega
theorem de_var {x : Str} {w : W} (hN : c.N = N) (h : Lk N env x w) (p : P w) : DE c env (.Name x pos) P := by
  intro X hX B Z H S fp σ E Q q
  obtain ⟨i, h1, h2⟩ := h.get
  obtain ⟨v, h3, h4⟩ := E.slot i _ h2
  have hn : X.N[i]? = some x := by rw [ok.N X hX, hN]; exact h1
  have hv := E.vis i _ x h2 (by rw [hN]; exact h1)
  exact oE (pe_var (i := i) hn (ok.vis X hX x hv) (ok.dbg x hv).1 (ok.dbg x hv).2) ⟨v, h3, q w v H S p E (Same.refl S) h4⟩
omit ok
theorem de_int {i : Int} {j} (p : P (.d (.int i))) : DE c env (.Constant (.int i) j pos) P := fun X _ B Z H S fp σ E Q q => oE pe_int (q _ _ H S p E (Same.refl S) (.int i))
theorem de_str {x : Str} {j} (p : P (.d (.str x))) : DE c env (.Constant (.str x) j pos) P := fun X _ B Z H S fp σ E Q q => oE pe_str (q _ _ H S p E (Same.refl S) (.str x))
theorem de_bl {k : Bool} {j} (p : P (.d (.bool k))) : DE c env (.Constant (.bool k) j pos) P := fun X _ B Z H S fp σ E Q q => oE pe_bl (q _ _ H S p E (Same.refl S) (.bl k))
theorem de_non {j} (p : P (.d .none)) : DE c env (.Constant .none j pos) P := fun X _ B Z H S fp σ E Q q => oE pe_non (q _ _ H S p E (Same.refl S) .non)
theorem da_nil {P : List W → Prop} (p : P []) : DA c env [] P := fun X _ B Z H S fp σ E Q q => oA pa_nil (q [] [] H S p E (Same.refl S) .nil)
theorem da_cons {P : List W → Prop} (h : DE c env e fun w => DA c env es fun ws => P (w :: ws)) (hs : ∀ X : Cx, starEach (e :: es) X.env = (false, eval e X.env) :: starEach es X.env := by intro _; kernel_rfl) : DA c env (e :: es) P := by
  intro X hX B Z H S fp σ E Q q
  refine oA (pa_cons pE pA (hs X)) ?_
  refine h X hX B Z H S fp σ E _ fun w v H1 S1 h1 E1 s1 r1 => ?_
  refine h1 X hX B Z H1 S1 fp σ E1 _ fun ws vs H2 S2 h2 E2 s2 r2 => ?_
  exact q (w :: ws) (v :: vs) H2 S2 h2 E2 (s1.trans s2) (.cons (Rep.mono s2 r1) r2)
theorem dd_nil {P : List PD → Prop} (p : P []) : DD c env [] P := fun X _ B Z H S fp σ E Q q => oA pa_nil (q [] [] H S p E (Same.refl S) .nil)
theorem dd_cons {P : List PD → Prop} (h : DE c env e fun w => ∃ d, w = .d d ∧ DD c env es fun ds => P (d :: ds)) (hs : ∀ X : Cx, starEach (e :: es) X.env = (false, eval e X.env) :: starEach es X.env := by intro _; kernel_rfl) : DD c env (e :: es) P := by
  intro X hX B Z H S fp σ E Q q
  refine oA (pa_cons pE pA (hs X)) ?_
  refine h X hX B Z H S fp σ E _ fun w v H1 S1 h1 E1 s1 r1 => ?_
  obtain ⟨d, rfl, h1⟩ := h1
  refine h1 X hX B Z H1 S1 fp σ E1 _ fun ds vs H2 S2 h2 E2 s2 r2 => ?_
  exact q (d :: ds) (v :: vs) H2 S2 h2 E2 (s1.trans s2) (.cons (Dt.mono s2 _ _ r1) r2)
theorem de_tup {x1} (h : DD c env es fun ds => ds.length ≤ 1000 ∧ P (.d (.tuple ds))) : DE c env (.Tuple es x1 pos) P := by
  intro X hX B Z H S fp σ E Q q
  refine oE (pe_tup pA) ?_
  refine h X hX B Z H S fp σ E _ fun ds vs H1 S1 h1 E1 s1 r1 => ?_
  have hz : vs.length ≤ sizeLine := Nat.le_trans (by rw [r1.length]; exact h1.1) (by decide)
  refine ⟨hz, fun p hp => ?_⟩
  have s2 : Same S1 (upd S1 p (.tup vs)) := same_upd (E1.sub.free hp)
  exact q _ _ _ _ h1.2 (E1.laid hp) (s1.trans s2) (.tup upd_same (DtAll.mono s2 _ _ r1))
theorem df_lst {P : List PD → Prop} (h : DD c env es fun ds => ds.length ≤ 1000 ∧ P ds) : DF c env (.List es pos) P := by
  intro X hX B Z H S fp σ E Q q
  refine oE (pe_lst pA) ?_
  refine h X hX B Z H S fp σ E _ fun ds vs H1 S1 h1 E1 s1 r1 => ?_
  have hz : vs.length ≤ sizeLine := Nat.le_trans (by rw [r1.length]; exact h1.1) (by decide)
  refine ⟨hz, fun p hp => ?_⟩
  exact q ds p vs _ S1 h1.2 (E1.newH hp) s1 (E1.lone hp) upd_same r1
/-! ### subscripts -/
section
variable {κ : Type} [DecidableEq κ]
def lkp (kvs : List (κ × PD)) (k : κ) : Option PD := (kvs.find? fun p => decide (p.1 = k)).map (·.2)
end
theorem lkp_T {S : Hp} (i j : Int) : ∀ {kvs : List (Pl × PD)} {ks : List (List Key × V)}, KvT S kvs ks → (∀ d, lkp kvs (i, j) = some d → ∃ v, valV ks (pk (i, j)) = some v ∧ Dt S v d) ∧ (lkp kvs (i, j) = none → valV ks (pk (i, j)) = none)
  | _, _, .nil => ⟨fun d h => (by simp [lkp] at h), fun _ => rfl⟩
  | p :: kvs, q :: ks, .cons h t => by
    obtain ⟨h1, h2⟩ := h
    have hk : (q.1 = pk (i, j)) ↔ (p.1 = (i, j)) := by
      rw [h1]
      unfold pk
      obtain ⟨⟨x, y⟩, z⟩ := p
      simp
    by_cases e : p.1 = (i, j)
    · have e1 : lkp (p :: kvs) (i, j) = some p.2 := by simp [lkp, e]
      rw [e1, valV_pos (hk.mpr e)]
      exact ⟨fun d hd => ⟨_, rfl, by cases hd; exact h2⟩, fun hd => by cases hd⟩
    · have e1 : lkp (p :: kvs) (i, j) = lkp kvs (i, j) := by simp [lkp, e]
      rw [e1, valV_neg (fun z => e (hk.mp z))]
      exact lkp_T i j t
theorem lkp_S {S : Hp} (x : Str) : ∀ {kvs : List (Str × PD)} {ks : List (Key × V)}, KvS S kvs ks → (∀ d, lkp kvs x = some d → ∃ v, valV ks (Sum.inr x) = some v ∧ Dt S v d) ∧ (lkp kvs x = none → valV ks (Sum.inr x) = none)
  | _, _, .nil => ⟨fun d h => (by simp [lkp] at h), fun _ => rfl⟩
  | p :: kvs, q :: ks, .cons h t => by
    obtain ⟨h1, h2⟩ := h
    have hk : (q.1 = Sum.inr x) ↔ (p.1 = x) := by
      rw [h1]
      exact ⟨fun z => Sum.inr.inj z, fun z => congrArg Sum.inr z⟩
    by_cases e : p.1 = x
    · have e1 : lkp (p :: kvs) x = some p.2 := by simp [lkp, e]
      rw [e1, valV_pos (hk.mpr e)]
      exact ⟨fun d hd => ⟨_, rfl, by cases hd; exact h2⟩, fun hd => by cases hd⟩
    · have e1 : lkp (p :: kvs) x = lkp kvs x := by simp [lkp, e]
      rw [e1, valV_neg (fun z => e (hk.mp z))]
      exact lkp_S x t
def ixW : W → W → Option W
  | .d (.tuple ds), .d (.int n) => (atI ds n).map .d
  | .d (.list ds), .d (.int n) => (atI ds n).map .d
  | .tb kvs, .d (.str x) => (lkp kvs x).map .d
  | .dt kvs, .d (.tuple [.int i, .int j]) => (lkp kvs (i, j)).map .d
  | .st s, .d (.int 0) => some (.dt s.t)
  | .st s, .d (.int 1) => some (.dt s.m)
  | .st s, .d (.int 2) => some (.dt s.b)
  | .st s, .d (.int 3) => some (.d (.list s.f))
  | .st s, .d (.int 4) => some (.d (.list s.o))
  | _, _ => none
theorem dict_sub {X : Cx} : IxR X (fun x y H Q => ∃ a v, x = .ref a ∧ X.A.units + 1 < cLine ∧ DGet H a y (some v) ∧ Q v H) := by
  intro value slice pins s σ H x y v u Q I rx ry h hs
  obtain ⟨a, z, rfl, hu, g, q⟩ := h
  obtain rfl : v = Value.ref a := rx
  have hT := dict_typeIs I g
  unfold subscriptTail
  refine wpAny_bind ?_
  rw [getitemInPython_of_ne hT.not_modules]
  refine wpAny_bind (wpAny_specialOf hT PySem.F.slot_dict_getitem.lookup ?_)
  have done : wpAny (model X.prog X.w) X.A (subscripted slice false (Value.ref a) u) (fun r s₃ => wpAny (model X.prog X.w) X.A (letTemporaryGo value (Value.ref a) r >>= fun _ => pure r) (EP X pins σ Q) X.xe s₃) X.xe s := by
    rw [hs]
    refine wpAny_operating (d_getItem hu I g ry fun w' s3 I3 rw' => ?_)
    exact wpAny_bind (wpAny_letTemporaryGo (wpAny_pure ⟨z, H, I3, rw', q⟩))
  first
    | exact wpAny_pure (wpAny_bind done)
    | exact wpAny_bind (wpAny_pure (wpAny_bind done))
    | exact wpAny_bind done
theorem atI_all {S : Hp} {vs : List V} {ds : List PD} {n : Int} {d : PD} (h : DtAll S vs ds) (e : atI ds n = some d) : ∃ v, atI vs n = some v ∧ Dt S v d := by
  unfold atI at e ⊢
  rw [h.length]
  cases q : ixN ds.length n with
  | none => rw [q] at e; cases e
  | some j =>
    rw [q] at e
    exact h.get (show ds[j]? = some d from e)
theorem atI_map {α β : Type} (f : α → β) (xs : List α) (n : Int) : atI (xs.map f) n = (atI xs n).map f := by
  unfold atI
  rw [List.length_map]
  cases ixN xs.length n with
  | none => rfl
  | some j => exact List.getElem?_map ..
include ok
theorem de_ix (h : DE c env a fun x => DE c env b fun y => ∃ r, ixW x y = some r ∧ P r) (hb : ∀ X : Cx, PlainIx b := by intro _ _ _; kernel_rfl) : DE c env (.Subscript a b pos) P := by
  intro X hX B Z H S fp σ E Q q
  refine oE (pe_ix (ix_list.or (ix_tup.or dict_sub)) pE pE (hb X)) ?_
  refine h X hX B Z H S fp σ E _ fun x v H1 S1 h1 E1 s1 r1 => ?_
  refine h1 X hX B Z H1 S1 fp σ E1 _ fun y u H2 S2 h2 E2 s2 r2 => ?_
  obtain ⟨r, e, hP⟩ := h2
  replace r1 : Rep c.C S2 v x := Rep.mono s2 r1
  have s12 := s1.trans s2
  clear h1
  have hu1 := ok.hu1 hX
  show rIxL X.K v u H2 Q ∨ (rIxT X.K v u H2 Q ∨ ∃ a z, v = .ref a ∧ X.A.units + 1 < cLine ∧ DGet H2 a u (some z) ∧ Q z H2)
  unfold ixW at e
  split at e
  · rename_i ds n
    obtain ⟨d, e3, rfl⟩ := Option.map_eq_some_iff.mp e
    obtain ⟨p, xs, rfl, e1, e2⟩ := Dt.tup_inv (S := S2) r1
    obtain rfl := Dt.int_inv (S := S2) r2
    obtain ⟨z, e4, e5⟩ := atI_all e2 e3
    exact .inr (.inl ⟨p, xs, n, z, rfl, rfl, Or.inl (Or.inl (E2.sub _ _ e1)), e4, q _ z _ _ hP E2 s12 e5⟩)
  · rename_i ds n
    obtain ⟨d, e3, rfl⟩ := Option.map_eq_some_iff.mp e
    obtain ⟨p, xs, rfl, e1, e2⟩ := Dt.list_inv (S := S2) r1
    obtain rfl := Dt.int_inv (S := S2) r2
    obtain ⟨z, e4, e5⟩ := atI_all e2 e3
    exact .inl ⟨p, xs, n, z, rfl, rfl, Or.inl (Or.inl (E2.sub _ _ e1)), e4, q _ z _ _ hP E2 s12 e5⟩
  · rename_i kvs k
    obtain ⟨d, e3, rfl⟩ := Option.map_eq_some_iff.mp e
    obtain ⟨p, ks, rfl, e1, e2⟩ := r1
    obtain rfl := Dt.str_inv (S := S2) r2
    obtain ⟨z, e4, e5⟩ := (lkp_S k e2).1 d e3
    have g := DGet.k (k := Sum.inr k) (E2.sub _ _ e1)
    rw [e4] at g
    exact .inr (.inr ⟨p, z, rfl, hu1, g, q _ z _ _ hP E2 s12 e5⟩)
  · rename_i kvs i j
    obtain ⟨d, e3, rfl⟩ := Option.map_eq_some_iff.mp e
    obtain ⟨p, ks, rfl, e1, e2⟩ := r1
    obtain ⟨p', xs, rfl, e6, e7⟩ := Dt.tup_inv (S := S2) r2
    obtain ⟨z, e4, e5⟩ := (lkp_T i j e2).1 d e3
    have hx : xs = (pk (i, j)).map kV := by
      cases e7 with
      | cons g1 g2 =>
        cases g2 with
        | cons g3 g4 =>
          cases g4
          rw [Dt.int_inv g1, Dt.int_inv g3] <;> rfl
    rw [hx] at e6
    have g := DGet.t (k := pk (i, j)) (E2.sub _ _ e1) (E2.sub _ _ e6)
    rw [e4] at g
    exact .inr (.inr ⟨p, z, rfl, hu1, g, q _ z _ _ hP E2 s12 e5⟩)
  all_goals first
    | (cases e; done)
    | (cases e
       obtain ⟨p, t, m, b', f, o, rfl, e1, g1, g2, g3, g4, g5⟩ := r1
       obtain rfl := Dt.int_inv (S := S2) r2
       first
         | exact .inl ⟨p, _, _, t, rfl, rfl, Or.inl (Or.inl (E2.sub _ _ e1)), rfl, q _ _ _ _ hP E2 s12 g1⟩
         | exact .inl ⟨p, _, _, m, rfl, rfl, Or.inl (Or.inl (E2.sub _ _ e1)), rfl, q _ _ _ _ hP E2 s12 g2⟩
         | exact .inl ⟨p, _, _, b', rfl, rfl, Or.inl (Or.inl (E2.sub _ _ e1)), rfl, q _ _ _ _ hP E2 s12 g3⟩
         | exact .inl ⟨p, _, _, f, rfl, rfl, Or.inl (Or.inl (E2.sub _ _ e1)), rfl, q _ _ _ _ hP E2 s12 g4⟩
         | exact .inl ⟨p, _, _, o, rfl, rfl, Or.inl (Or.inl (E2.sub _ _ e1)), rfl, q _ _ _ _ hP E2 s12 g5⟩)
end
/-! ### comparisons -/
/-- what == tells apart without a look at its signs -/
def scalD : PD → PD → Bool
  | .none, .none => true | .none, .int _ => true | .int _, .none => true | .none, .bool _ => true | .bool _, .none => true | .none, .str _ => true | .str _, .none => true
  | .int _, .int _ => true | .bool _, .bool _ => true | .str _, .str _ => true | .int _, .str _ => true | .str _, .int _ => true | .bool _, .str _ => true | .str _, .bool _ => true
  | _, _ => false
def eqOk (d e : PD) : Bool := scalD d e || (SeqAt.shaped d && SeqAt.shaped e)
theorem scalD_ok {S : Hp} {v u : V} {d e : PD} (r1 : Dt S v d) (r2 : Dt S u e) (h : scalD d e = true) : scal v u = true ∧ decide (v = u) = PyData.eqv d e := by
  cases r1 <;> cases r2 <;> first
    | exact absurd h Bool.false_ne_true
    | exact ⟨rfl, dec_int⟩
    | exact ⟨rfl, dec_bl⟩
    | exact ⟨rfl, dec_str⟩
    | exact ⟨rfl, by simp [PyData.eqv]⟩
section
variable {c : Ctx} {env : En} (ok : COk c) {N G : List Str} {pos : Pos} {P : W → Prop} {R : Bool → Prop} {a b e : Expr} {es rest : List Expr} {op op' : CmpOp}
theorem de_cr (h : CR c env op a b fun k => P (.d (.bool k))) (hm : behindInMarks op b = false := by first | exact nomark _ | rfl) : DE c env (.Compare a [op] [b] pos) P := by
  intro X hX B Z H S fp σ E Q q
  obtain ⟨r, ho, hr⟩ := h X hX
  exact oE (pe_cmpR ho pE pE hm) (hr B Z H S fp σ E Q fun k H' S' p E' s => q _ _ H' S' p E' s (.bl k))
theorem dt_cr (h : CR c env op a b R) (hm : behindInMarks op b = false := by first | exact nomark _ | rfl) : DT c env (.Compare a [op] [b] pos) R := by
  intro X hX B Z H S fp σ E Q q
  obtain ⟨r, ho, hr⟩ := h X hX
  exact oT (pt_cmpR ho pE pE hm) (hr B Z H S fp σ E _ fun k H' S' p E' s => ⟨k, rfl, q k H' S' p E' s⟩)
theorem cr_of {T : W → W → Prop} (h : DE c env a fun x => DE c env b fun y => T x y)
    (hr : ∀ X, c.F X → ∃ r, OpR X (compareOp op) r ∧ ∀ H S x y v u (Q : VK), Same S H → Rep c.C S v x → Rep c.C S u y → T x y → (∀ k, R k → Q (.bl k) H) → r v u H Q) : CR c env op a b R := by
  intro X hX
  obtain ⟨r, ho, hq⟩ := hr X hX
  refine ⟨r, ho, fun B Z H S fp σ E Q q => ?_⟩
  refine h X hX B Z H S fp σ E _ fun x v H1 S1 h1 E1 s1 r1 => ?_
  refine h1 X hX B Z H1 S1 fp σ E1 _ fun y u H2 S2 h2 E2 s2 r2 => ?_
  exact hq H2 S2 x y v u Q E2.sub (Rep.mono s2 r1) r2 h2 fun k p => q k H2 S2 p E2 (s1.trans s2)
include ok
theorem cr_eq (h : DE c env a fun x => DE c env b fun y => ∃ d e, x = .d d ∧ y = .d e ∧ eqOk d e = true ∧ R (PyData.eqv d e)) : CR c env .Eq a b R :=
  cr_of h fun X hX => ⟨_, op_eq.or (op_eqD (ok.hu hX)), fun H S x y v u Q s r1 r2 ⟨d, e, ex, ey, h1, h3⟩ q => by
    subst ex ey
    rcases Bool.or_eq_true_iff.mp h1 with z | z
    · obtain ⟨z1, z2⟩ := scalD_ok r1 r2 z
      exact .inl ⟨z1, by rw [z2]; exact q _ h3⟩
    · exact .inr ⟨d, e, Dt.dp s d v r1, Dt.dp s e u r2, (Bool.and_eq_true_iff.mp z).1, (Bool.and_eq_true_iff.mp z).2, q _ h3⟩⟩
theorem cr_ne (h : DE c env a fun x => DE c env b fun y => ∃ d e, x = .d d ∧ y = .d e ∧ eqOk d e = true ∧ R (!PyData.eqv d e)) : CR c env .NotEq a b R :=
  cr_of h fun X hX => ⟨_, op_ne.or (op_neD (ok.hu hX)), fun H S x y v u Q s r1 r2 ⟨d, e, ex, ey, h1, h3⟩ q => by
    subst ex ey
    rcases Bool.or_eq_true_iff.mp h1 with z | z
    · obtain ⟨z1, z2⟩ := scalD_ok r1 r2 z
      exact .inl ⟨z1, by rw [z2]; exact q _ h3⟩
    · exact .inr ⟨d, e, Dt.dp s d v r1, Dt.dp s e u r2, (Bool.and_eq_true_iff.mp z).1, (Bool.and_eq_true_iff.mp z).2, q _ h3⟩⟩
omit ok
structure IntCmp (op : CmpOp) (f : Int → Int → Bool) : Prop where
  op : ∀ X : Cx, OpR X (compareOp op) (rI0 fun i j => .bl (f i j))
theorem ic_lt : IntCmp .Lt fun i j => decide (i < j) := ⟨fun _ => op_lt⟩
theorem ic_le : IntCmp .LtE fun i j => decide (i ≤ j) := ⟨fun _ => op_le⟩
theorem ic_gt : IntCmp .Gt fun i j => decide (j < i) := ⟨fun _ => op_gt⟩
theorem ic_ge : IntCmp .GtE fun i j => decide (j ≤ i) := ⟨fun _ => op_ge⟩
theorem cr_int {f : Int → Int → Bool} (hf : IntCmp op f) (h : DE c env a fun x => DE c env b fun y => ∃ i j, x = .d (.int i) ∧ y = .d (.int j) ∧ R (f i j)) : CR c env op a b R :=
  cr_of h fun X _ => ⟨_, hf.op X, fun H S x y v u Q s r1 r2 ⟨i, j, ex, ey, h3⟩ q => by subst ex ey; exact ⟨i, j, Dt.int_inv (S := S) r1, Dt.int_inv (S := S) r2, q _ h3⟩⟩
def isNon' : W → Bool
  | .d .none => true
  | _ => false
theorem Rep.non_iff {C : Addr} {S : Hp} {v : V} {w : W} (h : Rep C S v w) : decide (v = .non) = isNon' w := by
  cases w with
  | d x => cases h <;> rfl
  | tb _ => obtain ⟨_, _, rfl, _⟩ := h; rfl
  | dt _ => obtain ⟨_, _, rfl, _⟩ := h; rfl
  | st _ => obtain ⟨_, _, _, _, _, _, rfl, _⟩ := h; rfl
  | lg _ => obtain ⟨_, _, _, _, _, _, _, _, _, rfl, _⟩ := h; rfl
theorem cr_is {j p'} (h : DE c env a fun x => R (isNon' x)) : CR c env .Is a (.Constant .none j p') R :=
  cr_of (T := fun x y => y = .d .none ∧ R (isNon' x)) (h.imp fun w q => de_non ⟨rfl, q⟩) fun X _ => ⟨_, op_isN, fun H S x y v u Q s r1 r2 ⟨ey, h3⟩ q => by subst ey; exact ⟨Dt.non_inv (S := S) r2, by rw [r1.non_iff]; exact q _ h3⟩⟩
theorem cr_isnot {j p'} (h : DE c env a fun x => R (!isNon' x)) : CR c env .IsNot a (.Constant .none j p') R :=
  cr_of (T := fun x y => y = .d .none ∧ R (!isNon' x)) (h.imp fun w q => de_non ⟨rfl, q⟩) fun X _ => ⟨_, op_notN, fun H S x y v u Q s r1 r2 ⟨ey, h3⟩ q => by subst ey; exact ⟨Dt.non_inv (S := S) r2, by rw [r1.non_iff]; exact q _ h3⟩⟩
/-- x in y, by what y is -/
def inL : Str → List PD → Option Bool
  | _, [] => some false
  | x, .str z :: ds => (inL x ds).map fun k => decide (z = x) || k
  | _, _ :: _ => none
def inW : W → W → Option Bool
  | .d (.str x), .d (.tuple ds) => inL x ds
  | .d (.str x), .d (.list ds) => inL x ds
  | .d d, .d (.list ds) => if SeqAt.shaped d = true ∧ SeqAt.shaped (.list ds) = true then some (ds.any fun z => PyData.eqv z d) else none
  | .d (.str x), .tb kvs => some (lkp kvs x).isSome
  | .d (.tuple [.int i, .int j]), .dt kvs => some (lkp kvs (i, j)).isSome
  | _, _ => none
theorem dict_in {X : Cx} : OpR X (compareOp .In) (fun y x H Q => ∃ a o, x = .ref a ∧ X.A.units + 1 < cLine ∧ DGet H a y o ∧ Q (.bl o.isSome) H) := by
  intro pins s σ H y x u v Q I ry rx h
  obtain ⟨a, o, rfl, hu, g, q⟩ := h
  obtain rfl : v = Value.ref a := rx
  exact d_in hu I g ry fun s3 I3 => ⟨.bl o.isSome, H, I3, rfl, q⟩
theorem dict_notin {X : Cx} : OpR X (compareOp .NotIn) (fun y x H Q => ∃ a o, x = .ref a ∧ X.A.units + 1 < cLine ∧ DGet H a y o ∧ Q (.bl (!o.isSome)) H) := by
  intro pins s σ H y x u v Q I ry rx h
  obtain ⟨a, o, rfl, hu, g, q⟩ := h
  obtain rfl : v = Value.ref a := rx
  exact d_notIn hu I g ry fun s3 I3 => ⟨.bl (!o.isSome), H, I3, rfl, q⟩
theorem inL_flat {S : Hp} {x : Str} : ∀ {ds : List PD} {vs : List V} {k : Bool}, DtAll S vs ds → inL x ds = some k → vs.all flatV = true ∧ inV (.str x) vs = k
  | [], _, k, h, e => by cases h; cases e; exact ⟨rfl, rfl⟩
  | d :: ds, _, k, h, e => by
    cases h with
    | cons h1 h2 =>
      cases d with
      | str z =>
        obtain rfl := Dt.str_inv h1
        obtain ⟨k', e1, e2⟩ := Option.map_eq_some_iff.mp (show (inL x ds).map _ = some k from e)
        obtain ⟨g1, g2⟩ := inL_flat h2 e1
        refine ⟨by rw [List.all_cons, g1] <;> rfl, ?_⟩
        unfold inV at g2 ⊢
        rw [List.any_cons, g2, ← e2]
        show (z == x || k') = _
        by_cases hz : z = x <;> simp [hz]
      | _ => cases e
theorem dget_of {S H : Hp} {v u : V} {kvs : List (Pl × PD)} {i j : Int} (s : Same S H) (r1 : Dt S v (.tuple [.int i, .int j])) (r2 : RDt S u kvs) : ∃ a o, u = .ref a ∧ DGet H a v o ∧ o.isSome = (lkp kvs (i, j)).isSome := by
  obtain ⟨p, ks, rfl, e1, e2⟩ := r2
  obtain ⟨p', xs, rfl, e6, e7⟩ := Dt.tup_inv r1
  have hx : xs = (pk (i, j)).map kV := by
    cases e7 with
    | cons g1 g2 =>
      cases g2 with
      | cons g3 g4 =>
        cases g4
        rw [Dt.int_inv g1, Dt.int_inv g3] <;> rfl
  rw [hx] at e6
  refine ⟨p, _, rfl, DGet.t (k := pk (i, j)) (s _ _ e1) (s _ _ e6), ?_⟩
  obtain ⟨g1, g2⟩ := lkp_T i j e2
  cases e : lkp kvs (i, j) with
  | none => rw [g2 e]; rfl
  | some d =>
    obtain ⟨z, hz, _⟩ := g1 d e
    rw [hz] <;> rfl
theorem dgetS_of {S H : Hp} {u : V} {kvs : List (Str × PD)} {x : Str} (s : Same S H) (r2 : RTb S u kvs) : ∃ a o, u = .ref a ∧ DGet H a (.str x) o ∧ o.isSome = (lkp kvs x).isSome := by
  obtain ⟨p, ks, rfl, e1, e2⟩ := r2
  refine ⟨p, _, rfl, DGet.k (k := Sum.inr x) (s _ _ e1), ?_⟩
  obtain ⟨g1, g2⟩ := lkp_S x e2
  cases e : lkp kvs x with
  | none => rw [g2 e]; rfl
  | some d =>
    obtain ⟨z, hz, _⟩ := g1 d e
    rw [hz] <;> rfl
/-- all that «in» reads -/
def InR (hu : Prop) (K : PySem.W.Frag) (neg : Bool) (y x : V) (H : Hp) (Q : VK) : Prop :=
  (∃ a o, x = .ref a ∧ hu ∧ DGet H a y o ∧ Q (.bl (if neg then !o.isSome else o.isSome)) H) ∨ rIn K neg y x H Q ∨
    (∃ d ds, Dp K H y d ∧ Dp K H x (.list ds) ∧ SeqAt.shaped d = true ∧ SeqAt.shaped (.list ds) = true ∧ Q (.bl (if neg then !ds.any (fun z => PyData.eqv z d) else ds.any fun z => PyData.eqv z d)) H)
theorem inR_of {hu : Prop} {K : PySem.W.Frag} {neg : Bool} (h : hu) {H S : Hp} {x y : W} {v u : V} {Q : VK} {k : Bool} {C : Addr} (s : Same S H) (r1 : Rep C S v x) (r2 : Rep C S u y) (e : inW x y = some k) (q : Q (.bl (if neg then !k else k)) H) : InR hu K neg v u H Q := by
  unfold inW at e
  split at e
  · rename_i x ds
    obtain ⟨a, xs, rfl, e1, e2⟩ := Dt.tup_inv (S := S) r2
    obtain rfl := Dt.str_inv (S := S) r1
    obtain ⟨g1, g2⟩ := inL_flat e2 e
    exact .inr (.inl ⟨a, xs, rfl, .inr (Or.inl (Or.inl (s _ _ e1))), rfl, g1, by rw [g2]; exact q⟩)
  · rename_i x ds
    obtain ⟨a, xs, rfl, e1, e2⟩ := Dt.list_inv (S := S) r2
    obtain rfl := Dt.str_inv (S := S) r1
    obtain ⟨g1, g2⟩ := inL_flat e2 e
    exact .inr (.inl ⟨a, xs, rfl, .inl (Or.inl (Or.inl (s _ _ e1))), rfl, g1, by rw [g2]; exact q⟩)
  · rename_i d ds _
    split at e
    · rename_i hs
      cases e
      exact .inr (.inr ⟨d, ds, Dt.dp s d v r1, Dt.dp s (.list ds) u r2, hs.1, hs.2, q⟩)
    · cases e
  · rename_i x kvs
    cases e
    obtain rfl := Dt.str_inv (S := S) r1
    obtain ⟨a, o, rfl, g, eo⟩ := dgetS_of (x := x) s r2
    exact .inl ⟨a, o, rfl, h, g, by rw [eo]; exact q⟩
  · rename_i i j kvs
    cases e
    obtain ⟨a, o, rfl, g, eo⟩ := dget_of s r1 r2
    exact .inl ⟨a, o, rfl, h, g, by rw [eo]; exact q⟩
  · cases e
include ok
theorem cr_in (h : DE c env a fun x => DE c env b fun y => ∃ k, inW x y = some k ∧ R k) : CR c env .In a b R :=
  cr_of h fun X hX => ⟨InR (X.A.units + 1 < cLine) X.K false, fun pins s σ H x y v u Q I rx ry z => (dict_in.or (op_in_seq.or (op_inD (ok.hu65 hX)))) pins s σ H x y v u Q I rx ry z,
    fun H S x y v u Q s r1 r2 ⟨k, e, h3⟩ q => inR_of (ok.hu1 hX) s r1 r2 e (q k h3)⟩
theorem cr_notin (h : DE c env a fun x => DE c env b fun y => ∃ k, inW x y = some k ∧ R (!k)) : CR c env .NotIn a b R :=
  cr_of h fun X hX => ⟨InR (X.A.units + 1 < cLine) X.K true, fun pins s σ H x y v u Q I rx ry z => (dict_notin.or (op_notIn_seq.or (op_notInD (ok.hu65 hX)))) pins s σ H x y v u Q I rx ry z,
    fun H S x y v u Q s r1 r2 ⟨k, e, h3⟩ q => inR_of (ok.hu1 hX) s r1 r2 e (q (!k) h3)⟩
omit ok
theorem de_chain {f g : Int → Int → Bool} (hf : IntCmp op f) (hg : IntCmp op' g)
    (h : DE c env a fun x => DE c env b fun y => ∃ i j, x = .d (.int i) ∧ y = .d (.int j) ∧ (f i j = true → DE c env e fun z => ∃ k, z = .d (.int k) ∧ P (.d (.bool (g j k)))) ∧ (f i j = false → P (.d (.bool false))))
    (hm : lastMarks [op, op'] [b, e] = false := by with_unfolding_all rfl) : DE c env (.Compare a [op, op'] [b, e] pos) P := by
  intro X hX B Z H S fp σ E Q q
  refine oE (pe_chain (hf.op X) (hg.op X) pE pE pE hm) ?_
  refine h X hX B Z H S fp σ E _ fun x v H1 S1 h1 E1 s1 r1 => ?_
  refine h1 X hX B Z H1 S1 fp σ E1 _ fun y u H2 S2 h2 E2 s2 r2 => ?_
  obtain ⟨i, j, rfl, rfl, h3, h4⟩ := h2
  refine ⟨i, j, Dt.int_inv (S := S1) r1, Dt.int_inv (S := S2) r2, f i j, rfl, ?_⟩
  cases hk : f i j with
  | false => exact iteF (q _ _ H2 S2 (h4 hk) E2 (s1.trans s2) (.bl false))
  | true =>
    refine iteT ?_
    refine h3 hk X hX B Z H2 S2 fp σ E2 _ fun z w H3 S3 h5 E3 s3 r3 => ?_
    obtain ⟨k, rfl, h5⟩ := h5
    exact ⟨j, k, Dt.int_inv (S := S2) r2, Dt.int_inv (S := S3) r3, q _ _ H3 S3 h5 E3 ((s1.trans s2).trans s3) (.bl _)⟩
/-! ### tests -/
include ok
theorem dt_truth (h : DE c env e fun w => ∃ k, truW w = some k ∧ R k) (he : ∀ (X : Cx) whole, isTrue e X.env whole = (do let v ← whole; standAt e.pos; holding [v] (truthy v)) := by intro _ _; kernel_rfl) : DT c env e R := by
  intro X hX B Z H S fp σ E Q q
  refine oT (pt_truth pE (he X)) ?_
  refine h X hX B Z H S fp σ E _ fun w v H1 S1 h1 E1 s1 r1 => ?_
  obtain ⟨k, e1, hR⟩ := h1
  refine ⟨k, ?_, q k H1 S1 hR E1 s1⟩
  have emp : ∀ {xs : List V} {ds : List PD}, DtAll S1 xs ds → (!ds.isEmpty) = !xs.isEmpty := by
    intro xs ds z
    cases z <;> rfl
  cases w with
  | d x =>
    cases x with
    | none => cases r1; cases e1; rfl
    | bool k' => cases r1; cases e1; rfl
    | int i => cases r1; cases e1; rfl
    | str x => cases e1
    | list ds =>
      obtain ⟨a, xs, rfl, e2, e3⟩ := Dt.list_inv (S := S1) r1
      cases e1
      exact .inl ⟨xs, Or.inl (Or.inl (E1.sub _ _ e2)), emp e3⟩
    | tuple ds =>
      obtain ⟨a, xs, rfl, e2, e3⟩ := Dt.tup_inv (S := S1) r1
      cases e1
      exact .inr (.inl ⟨xs, Or.inl (Or.inl (E1.sub _ _ e2)), emp e3⟩)
    | dict _ => cases r1
  | tb kvs =>
    obtain ⟨a, ks, rfl, e2, e3⟩ := r1
    cases e1
    exact .inr (.inr ⟨ks, E1.sub _ _ e2, by cases e3 <;> rfl⟩)
  | _ => cases e1
omit ok
theorem dt_not (h : DT c env e fun k => R (!k)) : DT c env (.UnaryOp .Not e pos) R := fun X hX B Z H S fp σ E Q q =>
  oT (pt_not pT) (h X hX B Z H S fp σ E _ fun k H1 S1 h1 E1 s1 => q _ H1 S1 h1 E1 s1)
theorem dt_dw (h : DW c env e R) : DT c env e R := fun X hX B Z H S fp σ E Q q => oT pW.pt (h X hX B Z H S fp σ E Q q)
theorem dw_and1 (h : DT c env a R) : DW c env (.BoolOp .And [a] pos) R := fun X hX B Z H S fp σ E Q q => oW (pw_and1 pT) (h X hX B Z H S fp σ E Q q)
theorem dw_or1 (h : DT c env a R) : DW c env (.BoolOp .Or [a] pos) R := fun X hX B Z H S fp σ E Q q => oW (pw_or1 pT) (h X hX B Z H S fp σ E Q q)
theorem dw_and (h : DT c env a fun k => (k = true → DW c env (.BoolOp .And (b :: rest) pos) R) ∧ (k = false → R false)) : DW c env (.BoolOp .And (a :: b :: rest) pos) R := fun X hX B Z H S fp σ E Q q =>
  oW (pw_and pT pW) (h X hX B Z H S fp σ E _ fun k H1 S1 h1 E1 s1 => by
    cases k with
    | true => exact iteT (h1.1 rfl X hX B Z H1 S1 fp σ E1 _ fun k2 H2 S2 h2 E2 s2 => q k2 H2 S2 h2 E2 (s1.trans s2))
    | false => exact iteF (q false H1 S1 (h1.2 rfl) E1 s1))
theorem dw_or (h : DT c env a fun k => (k = true → R true) ∧ (k = false → DW c env (.BoolOp .Or (b :: rest) pos) R)) : DW c env (.BoolOp .Or (a :: b :: rest) pos) R := fun X hX B Z H S fp σ E Q q =>
  oW (pw_or pT pW) (h X hX B Z H S fp σ E _ fun k H1 S1 h1 E1 s1 => by
    cases k with
    | true => exact iteT (q true H1 S1 (h1.1 rfl) E1 s1)
    | false => exact iteF (h1.2 rfl X hX B Z H1 S1 fp σ E1 _ fun k2 H2 S2 h2 E2 s2 => q k2 H2 S2 h2 E2 (s1.trans s2)))
/-! ### and, or, not as values -/
theorem de_one {bop} (h : DE c env a P) : DE c env (.BoolOp bop [a] pos) P := fun X hX B Z H S fp σ E Q q => oE (pe_one pE) (h X hX B Z H S fp σ E Q q)
theorem de_and (h : DE c env a fun x => ∃ k, x = .d (.bool k) ∧ (k = true → DE c env (.BoolOp .And (b :: rest) pos) P) ∧ (k = false → P (.d (.bool false)))) : DE c env (.BoolOp .And (a :: b :: rest) pos) P := fun X hX B Z H S fp σ E Q q =>
  oE (pe_and pE pE) (h X hX B Z H S fp σ E _ fun x v H1 S1 h1 E1 s1 r1 => by
    obtain ⟨k, rfl, h1⟩ := h1
    refine ⟨k, Dt.bl_inv (S := S1) r1, ?_⟩
    cases k with
    | true => exact iteT (h1.1 rfl X hX B Z H1 S1 fp σ E1 _ fun y u H2 S2 h2 E2 s2 r2 => q y u H2 S2 h2 E2 (s1.trans s2) r2)
    | false => exact iteF (q _ _ H1 S1 (h1.2 rfl) E1 s1 (.bl false)))
theorem de_or (h : DE c env a fun x => ∃ k, x = .d (.bool k) ∧ (k = true → P (.d (.bool true))) ∧ (k = false → DE c env (.BoolOp .Or (b :: rest) pos) P)) : DE c env (.BoolOp .Or (a :: b :: rest) pos) P := fun X hX B Z H S fp σ E Q q =>
  oE (pe_or pE pE) (h X hX B Z H S fp σ E _ fun x v H1 S1 h1 E1 s1 r1 => by
    obtain ⟨k, rfl, h1⟩ := h1
    refine ⟨k, Dt.bl_inv (S := S1) r1, ?_⟩
    cases k with
    | true => exact iteT (q _ _ H1 S1 (h1.1 rfl) E1 s1 (.bl true))
    | false => exact iteF (h1.2 rfl X hX B Z H1 S1 fp σ E1 _ fun y u H2 S2 h2 E2 s2 r2 => q y u H2 S2 h2 E2 (s1.trans s2) r2))
include ok
theorem de_not (h : DE c env e fun w => ∃ k, truW w = some k ∧ P (.d (.bool (!k)))) : DE c env (.UnaryOp .Not e pos) P := by
  intro X hX B Z H S fp σ E Q q
  refine oE (pe_notT pE) ?_
  refine h X hX B Z H S fp σ E _ fun w v H1 S1 h1 E1 s1 r1 => ?_
  obtain ⟨k, e1, hR⟩ := h1
  refine ⟨k, ?_, q _ _ H1 S1 hR E1 s1 (.bl _)⟩
  have emp : ∀ {xs : List V} {ds : List PD}, DtAll S1 xs ds → (!ds.isEmpty) = !xs.isEmpty := by
    intro xs ds z
    cases z <;> rfl
  cases w with
  | d x =>
    cases x with
    | none => cases r1; cases e1; rfl
    | bool k' => cases r1; cases e1; rfl
    | int i => cases r1; cases e1; rfl
    | str x => cases e1
    | list ds =>
      obtain ⟨a, xs, rfl, e2, e3⟩ := Dt.list_inv (S := S1) r1
      cases e1
      exact .inl ⟨xs, Or.inl (Or.inl (E1.sub _ _ e2)), emp e3⟩
    | tuple ds =>
      obtain ⟨a, xs, rfl, e2, e3⟩ := Dt.tup_inv (S := S1) r1
      cases e1
      exact .inr (.inl ⟨xs, Or.inl (Or.inl (E1.sub _ _ e2)), emp e3⟩)
    | dict _ => cases r1
  | tb kvs =>
    obtain ⟨a, ks, rfl, e2, e3⟩ := r1
    cases e1
    exact .inr (.inr ⟨ks, E1.sub _ _ e2, by cases e3 <;> rfl⟩)
  | _ => cases e1
omit ok
theorem de_ifExp (h : DT c env e fun k => (k = true → DE c env a P) ∧ (k = false → DE c env b P)) : DE c env (.IfExp e a b pos) P := fun X hX B Z H S fp σ E Q q =>
  oE (pe_ifExp pT pE pE) (h X hX B Z H S fp σ E _ fun k H1 S1 h1 E1 s1 => by
    cases k with
    | true => exact iteT (h1.1 rfl X hX B Z H1 S1 fp σ E1 _ fun y u H2 S2 h2 E2 s2 r2 => q y u H2 S2 h2 E2 (s1.trans s2) r2)
    | false => exact iteF (h1.2 rfl X hX B Z H1 S1 fp σ E1 _ fun y u H2 S2 h2 E2 s2 r2 => q y u H2 S2 h2 E2 (s1.trans s2) r2))
end
/-! ## 6. Arithmetic -/
theorem COk.mgn {c : Ctx} (ok : COk c) {X : Cx} (hX : c.F X) {x : Str} (h : c.mg x = none) : X.mg x = none := by rw [(ok.eqs X hX).2.2.2.1]; exact h
def tyD : PD → String
  | .none => "NoneType"
  | .bool _ => "bool"
  | .int _ => "int"
  | .str _ => "str"
  | .list _ => "list"
  | .tuple _ => "tuple"
  | .dict _ => "dict"
def isTupD : PD → Bool
  | .tuple _ => true
  | _ => false
def isIntD : PD → Bool
  | .int _ => true
  | .bool _ => true
  | _ => false
def isBoolD : PD → Bool
  | .bool _ => true
  | _ => false
def isStrD : PD → Bool
  | .str _ => true
  | _ => false
theorem kb_tup (d : PD) : kitB (tyD d) "tuple" = some (isTupD d) := by cases d <;> (simp only [tyD, isTupD]; decide +kernel)
theorem kb_int (d : PD) : kitB (tyD d) "int" = some (isIntD d) := by cases d <;> (simp only [tyD, isIntD]; decide +kernel)
theorem kb_bool (d : PD) : kitB (tyD d) "bool" = some (isBoolD d) := by cases d <;> (simp only [tyD, isBoolD]; decide +kernel)
theorem kb_str (d : PD) : kitB (tyD d) "str" = some (isStrD d) := by cases d <;> (simp only [tyD, isStrD]; decide +kernel)
theorem Dt.ty {K : PySem.W.Frag} {S H : Hp} {v : V} {d : PD} (s : Same S H) (h : Dt S v d) : TyX K H v (.type (tyD d)) := by
  cases h with
  | non => exact .base .non
  | bl b => exact .base (.bl b)
  | int i => exact .base (.int i)
  | str x => exact .base (.str x)
  | lst e _ => exact .base (.lst (s _ _ e))
  | tup e _ => exact .base (.tup (s _ _ e))
theorem keys_all {S S' : Hp} : ∀ {kvs : List (Str × PD)} {ks : List (Key × V)}, KvS S kvs ks → DtAll S' (ks.map fun kv => kV kv.1) (kvs.map fun p => .str p.1)
  | _, _, .nil => .nil
  | p :: _, q :: _, .cons h t => by
    rw [List.map_cons, List.map_cons, h.1]
    exact .cons (.str p.1) (keys_all t)
section
variable {c : Ctx} {env : En} (ok : COk c) {N G : List Str} {pos p : Pos} {P : W → Prop} {R : Bool → Prop} {a b e : Expr} {es : List Expr} {x : Str}
theorem de_int2 {op : Operator} {Cd : Int → Int → Prop} {g : Int → Int → Int} (ho : ∀ X : Cx, OpR X (binaryOp op) (rI Cd fun i j => .int (g i j)))
    (h : DE c env a fun x => DE c env b fun y => ∃ i j, x = .d (.int i) ∧ y = .d (.int j) ∧ Cd i j ∧ P (.d (.int (g i j)))) : DE c env (.BinOp a op b pos) P := by
  intro X hX B Z H S fp σ E Q q
  refine oE (pe_op (ho X) pE pE) ?_
  refine h X hX B Z H S fp σ E _ fun x v H1 S1 h1 E1 s1 r1 => ?_
  refine h1 X hX B Z H1 S1 fp σ E1 _ fun y u H2 S2 h2 E2 s2 r2 => ?_
  obtain ⟨i, j, rfl, rfl, h3, h4⟩ := h2
  exact ⟨i, j, Dt.int_inv (S := S1) r1, Dt.int_inv (S := S2) r2, h3, q _ _ H2 S2 h4 E2 (s1.trans s2) (.int _)⟩
theorem opAdd (X : Cx) : OpR X (binaryOp .Add) (rI (fun _ _ => True) fun i j => .int (i + j)) := fun pins s σ H x y v u Q I rx ry ⟨i, j, e1, e2, _, q⟩ => op_add pins s σ H x y v u Q I rx ry ⟨i, j, e1, e2, q⟩
theorem opSub (X : Cx) : OpR X (binaryOp .Sub) (rI (fun _ _ => True) fun i j => .int (i - j)) := fun pins s σ H x y v u Q I rx ry ⟨i, j, e1, e2, _, q⟩ => op_sub pins s σ H x y v u Q I rx ry ⟨i, j, e1, e2, q⟩
theorem de_sub (h : DE c env a fun x => DE c env b fun y => ∃ i j, x = .d (.int i) ∧ y = .d (.int j) ∧ P (.d (.int (i - j)))) : DE c env (.BinOp a .Sub b pos) P :=
  de_int2 opSub (h.imp fun _ h => h.imp fun _ ⟨i, j, e1, e2, q⟩ => ⟨i, j, e1, e2, trivial, q⟩)
theorem de_mul (h : DE c env a fun x => DE c env b fun y => ∃ i j, x = .d (.int i) ∧ y = .d (.int j) ∧ CMul i j ∧ P (.d (.int (i * j)))) : DE c env (.BinOp a .Mult b pos) P := de_int2 (fun _ => op_mul) h
theorem de_mod (h : DE c env a fun x => DE c env b fun y => ∃ i j, x = .d (.int i) ∧ y = .d (.int j) ∧ 0 < j ∧ P (.d (.int (i % j)))) : DE c env (.BinOp a .Mod b pos) P := de_int2 (fun _ => op_mod) h
theorem de_fdiv (h : DE c env a fun x => DE c env b fun y => ∃ i j, x = .d (.int i) ∧ y = .d (.int j) ∧ CDiv i j ∧ P (.d (.int (i / j)))) : DE c env (.BinOp a .FloorDiv b pos) P := de_int2 (fun _ => op_fdiv) h
theorem de_neg (h : DE c env a fun x => ∃ i, x = .d (.int i) ∧ P (.d (.int (-i)))) : DE c env (.UnaryOp .USub a pos) P := by
  intro X hX B Z H S fp σ E Q q
  refine oE (pe_un un_neg pE) ?_
  refine h X hX B Z H S fp σ E _ fun x v H1 S1 h1 E1 s1 r1 => ?_
  obtain ⟨i, rfl, h3⟩ := h1
  exact ⟨i, Dt.int_inv (S := S1) r1, q _ _ H1 S1 h3 E1 s1 (.int _)⟩
theorem op_add_any {X : Cx} : OpR X (binaryOp .Add) (fun x y H Q => rI0 (fun i j => .int (i + j)) x y H Q ∨ rCatA X.K x y H Q) := op_add.or op_catA
/-- numbers or tuples -/
def addW : W → W → Option W
  | .d (.int i), .d (.int j) => some (.d (.int (i + j)))
  | .d (.tuple ds), .d (.tuple es) => if ds.length + es.length ≤ 1000000 then some (.d (.tuple (ds ++ es))) else none
  | _, _ => none
theorem DtAll.nil_iff {S : Hp} {vs : List V} {ds : List PD} (h : DtAll S vs ds) : vs = [] ↔ ds = [] := by cases h <;> simp
theorem de_add (h : DE c env a fun x => DE c env b fun y => ∃ r, addW x y = some r ∧ P r) : DE c env (.BinOp a .Add b pos) P := by
  intro X hX B Z H S fp σ E Q q
  refine oE (pe_op op_add_any pE pE) ?_
  refine h X hX B Z H S fp σ E _ fun x v H1 S1 h1 E1 s1 r1 => ?_
  refine h1 X hX B Z H1 S1 fp σ E1 _ fun y u H2 S2 h2 E2 s2 r2 => ?_
  obtain ⟨r, e1, hP⟩ := h2
  replace r1 : Rep c.C S2 v x := Rep.mono s2 r1
  clear h1
  have s12 := s1.trans s2
  unfold addW at e1
  split at e1
  · rename_i i j
    cases e1
    exact .inl ⟨i, j, Dt.int_inv (S := S2) r1, Dt.int_inv (S := S2) r2, q _ _ H2 S2 hP E2 s12 (.int _)⟩
  · rename_i ds es
    split at e1
    · rename_i hz
      cases e1
      obtain ⟨a1, xs, rfl, e2, e3⟩ := Dt.tup_inv (S := S2) r1
      obtain ⟨a2, ys, rfl, e4, e5⟩ := Dt.tup_inv (S := S2) r2
      refine .inr ⟨a1, a2, xs, ys, rfl, rfl, Or.inl (Or.inl (E2.sub _ _ e2)), Or.inl (Or.inl (E2.sub _ _ e4)), by rw [e3.length, e5.length]; exact Nat.le_trans hz (by decide), fun hx => ?_, fun hx hy => ?_, fun hx hy p hp => ?_⟩
      · have := e3.nil_iff.mp hx
        subst this
        exact q _ _ H2 S2 hP E2 s12 (.tup e4 e5)
      · have := e5.nil_iff.mp hy
        subst this
        exact q _ _ H2 S2 hP E2 s12 (.tup e2 (by rw [List.append_nil]; exact e3))
      · have s3 : Same S2 (upd S2 p (.tup (xs ++ ys))) := same_upd (E2.sub.free hp)
        exact q _ _ _ _ hP (E2.laid hp) (s12.trans s3) (.tup upd_same (DtAll.mono s3 _ _ (e3.append e5)))
    · cases e1
  · cases e1
/-- lists -/
theorem df_cat {P : List PD → Prop} (h : DF c env a fun ds => DF c env b fun es => ds.length + es.length ≤ 1000000 ∧ P (ds ++ es)) : DF c env (.BinOp a .Add b pos) P := by
  intro X hX B Z H S fp σ E Q q
  refine oE (pe_op op_cat pE pE) ?_
  refine h X hX B Z H S fp σ E _ fun ds l vs H1 S1 h1 E1 s1 n1 l1 r1 => ?_
  -- the first list is kept in the region while the second is made
  have t1 : Same S1 (upd S1 l (.lst vs)) := same_upd n1.s
  refine h1 X hX B Z H1 _ fp σ (E1.take l1 n1) _ fun es m us H2 S2 h2 E2 s2 n2 l2 r2 => ?_
  have e1 : S2 l = some (.lst vs) := s2 l _ upd_same
  refine ⟨l, m, vs, us, rfl, rfl, E2.sub _ _ e1, l2, by rw [r1.length, r2.length]; exact Nat.le_trans h2.1 (by decide), fun p hp => ?_⟩
  exact q _ p _ _ S2 h2.2 (E2.newH hp) (s1.trans (t1.trans s2)) (E2.lone hp) upd_same ((DtAll.mono (t1.trans s2) _ _ r1).append r2)
/-! ## 7. Slices -/
def cutD (ds : List PD) (lo hi : Option Int) : List PD := (ds.drop (HT.sIx ds.length 0 lo)).take (HT.sIx ds.length ds.length hi - HT.sIx ds.length 0 lo)
theorem cut_all {S : Hp} {vs : List V} {ds : List PD} (h : DtAll S vs ds) (lo hi : Option Int) : DtAll S (cutV vs lo hi) (cutD ds lo hi) := by
  unfold cutV cutD
  rw [h.length]
  exact (h.drop _).take _
/-- a bound of a slice -/
def DO (c : Ctx) (env : En) (e : Option Expr) (P : Option Int → Prop) : Prop := match e with
  | none => P none
  | some e => DE c env e fun w => ∃ i, w = .d (.int i) ∧ P (some i)
def sO (X : Cx) (e : Option Expr) : TO := match e with
  | none => tNoPart
  | some e => tPart (sE X e)
theorem pO {X : Cx} {e : Option Expr} : PO X e (sO X e) := by
  cases e with
  | none => exact po_none
  | some e => exact po_some pE
theorem do_run {e : Option Expr} {P : Option Int → Prop} (h : DO c env e P) {X : Cx} (hX : c.F X) {B : Hp} {Z : Addr → Prop} {H S : Hp} {fp : Nat → List Addr} {σ : L2.St} (E : ER c B Z H S fp σ env) {Q : Option Int → Hp → Prop}
    (q : ∀ o H' S', P o → ER c B Z H' S' fp σ env → Same S S' → Q o H') : sO X e σ H Q := by
  cases e with
  | none => exact q none H S h E (Same.refl S)
  | some e => exact h X hX B Z H S fp σ E _ fun w v H1 S1 ⟨i, e1, hP⟩ E1 s1 r1 => by subst e1; exact ⟨i, Dt.int_inv (S := S1) r1, q _ H1 S1 hP E1 s1⟩
theorem df_cut {lo hi : Option Expr} {p2 : Pos} {P : List PD → Prop} (h : DE c env e fun w => ∃ ds, w = .d (.list ds) ∧ DO c env lo fun l => DO c env hi fun u => P (cutD ds l u)) : DF c env (.Subscript e (.Slice lo hi none p2) pos) P := by
  intro X hX B Z H S fp σ E Q q
  refine oE (pe_slice sl_list pE pO pO) ?_
  refine h X hX B Z H S fp σ E _ fun w v H1 S1 h1 E1 s1 r1 => ?_
  obtain ⟨ds, rfl, h1⟩ := h1
  refine do_run h1 hX E1 fun l H2 S2 h2 E2 s2 => ?_
  refine do_run h2 hX E2 fun u H3 S3 h3 E3 s3 => ?_
  obtain ⟨a1, xs, rfl, e2, e3⟩ := Dt.list_inv (S := S3) (Rep.mono (s2.trans s3) r1)
  exact ⟨a1, xs, rfl, Or.inl (Or.inl (E3.sub _ _ e2)), fun p hp => q _ p _ _ S3 h3 (E3.newH hp) (s1.trans (s2.trans s3)) (E3.lone hp) upd_same (cut_all e3 l u)⟩
theorem de_cut {lo hi : Option Expr} {p2 : Pos} (h : DE c env e fun w => ∃ ds, w = .d (.tuple ds) ∧ DO c env lo fun l => DO c env hi fun u => P (.d (.tuple (cutD ds l u)))) : DE c env (.Subscript e (.Slice lo hi none p2) pos) P := by
  intro X hX B Z H S fp σ E Q q
  refine oE (pe_slice sl_tupA pE pO pO) ?_
  refine h X hX B Z H S fp σ E _ fun w v H1 S1 h1 E1 s1 r1 => ?_
  obtain ⟨ds, rfl, h1⟩ := h1
  refine do_run h1 hX E1 fun l H2 S2 h2 E2 s2 => ?_
  refine do_run h2 hX E2 fun u H3 S3 h3 E3 s3 => ?_
  obtain ⟨a1, xs, rfl, e2, e3⟩ := Dt.tup_inv (S := S3) (Rep.mono (s2.trans s3) r1)
  have s123 := s1.trans (s2.trans s3)
  refine ⟨a1, xs, rfl, Or.inl (Or.inl (E3.sub _ _ e2)), fun z => ?_, fun z p hp => ?_⟩
  · have e4 : cutD ds l u = ds := by
      unfold cutD
      rw [← e3.length, z.1, z.2, e3.length, List.drop_zero, Nat.sub_zero, List.take_length]
    exact q (.d (.tuple ds)) _ H3 S3 (by rw [e4] at h3; exact h3) E3 s123 (Dt.tup (S := S3) e2 e3)
  · have s4 : Same S3 (upd S3 p (.tup (cutV xs l u))) := same_upd (E3.sub.free hp)
    exact q _ _ _ _ h3 (E3.laid hp) (s123.trans s4) (.tup upd_same (DtAll.mono s4 _ _ (cut_all e3 l u)))
/-! ## 8. Built-in functions -/
structure BiOk (mg : Str → Option Value) : Prop where
  isinstance : mg "isinstance" = none
  int : mg "int" = none
  bool : mg "bool" = none
  str : mg "str" = none
  tuple : mg "tuple" = none
  len : mg "len" = none
  range : mg "range" = none
  dict : mg "dict" = none
  list : mg "list" = none
  sorted : mg "sorted" = none
  abs : mg "abs" = none
  reversed : mg "reversed" = none
def lenW : W → Option Int
  | .d (.list ds) => some ds.length
  | .d (.tuple ds) => some ds.length
  | .tb kvs => some kvs.length
  | .dt kvs => some kvs.length
  | _ => none
variable (bi : BiOk c.mg)
include ok bi
theorem de_len (hG : c.G = G) (hg : ("len" : Str) ∈ G) (h : DE c env e fun w => ∃ n, lenW w = some n ∧ P (.d (.int n)))
    (he : ∀ X : Cx, starEach (e :: []) X.env = (false, eval e X.env) :: starEach [] X.env := by intro _; kernel_rfl) (hpl : ∀ X : Cx, (backTo pos (starEach [] X.env)).any (·.1) = false := by intro _; kernel_rfl) : DE c env (.Call (.Name "len" p) [e] [] pos) P := by
  intro X hX B Z H S fp σ E Q q
  refine oE (pe_callB (call_len_seq.or (call_lenD.or call_len_dT)) (ok.gl X hX _ (hG ▸ hg)) (ok.mgn hX bi.len) boot_len (pa_cons pE pa_nil (he X)) (by decide) (by decide) (he X) (hpl X)) ?_
  refine h X hX B Z H S fp σ E _ fun w v H1 S1 h1 E1 s1 r1 => ?_
  obtain ⟨n, e1, hP⟩ := h1
  have fin := q _ _ H1 S1 hP E1 s1 (.int n)
  cases w with
  | d x =>
    cases x with
    | list ds =>
      cases e1
      obtain ⟨a1, xs, rfl, e2, e3⟩ := Dt.list_inv (S := S1) r1
      exact .inl ⟨a1, xs, rfl, .inl (Or.inl (Or.inl (E1.sub _ _ e2))), by rw [e3.length]; exact fin⟩
    | tuple ds =>
      cases e1
      obtain ⟨a1, xs, rfl, e2, e3⟩ := Dt.tup_inv (S := S1) r1
      exact .inl ⟨a1, xs, rfl, .inr (Or.inl (Or.inl (E1.sub _ _ e2))), by rw [e3.length]; exact fin⟩
    | _ => cases e1
  | tb kvs =>
    cases e1
    obtain ⟨a1, xs, rfl, e2, e3⟩ := r1
    exact .inr (.inl ⟨a1, xs, rfl, E1.sub _ _ e2, by rw [← Paired.length e3]; exact fin⟩)
  | dt kvs =>
    cases e1
    obtain ⟨a1, xs, rfl, e2, e3⟩ := r1
    exact .inr (.inr ⟨a1, xs, rfl, E1.sub _ _ e2, by rw [← Paired.length e3]; exact fin⟩)
  | _ => cases e1
omit bi
/-- isinstance(e, T) -/
theorem de_isin {T : Str} {n : String} {p1 : Pos} {g : PD → Bool} (bi : BiOk c.mg) (hG : c.G = G) (hg : ("isinstance" : Str) ∈ G) (hT : T ∈ G) (hb : BiOk c.mg → c.mg T = none) (hv : bootBuiltins T = some (.type n)) (h : DE c env e fun w => ∃ d, w = .d d ∧ P (.d (.bool (g d)))) (hk : ∀ d, kitB (tyD d) n = some (g d))
    
    (he : ∀ X : Cx, starEach (e :: [Expr.Name T p1]) X.env = (false, eval e X.env) :: starEach [Expr.Name T p1] X.env := by intro _; kernel_rfl) (he2 : ∀ X : Cx, starEach (Expr.Name T p1 :: []) X.env = (false, eval (Expr.Name T p1) X.env) :: starEach [] X.env := by intro _; kernel_rfl)
    (hpl : ∀ X : Cx, (backTo pos (starEach [Expr.Name T p1] X.env)).any (·.1) = false := by intro _; kernel_rfl) : DE c env (.Call (.Name "isinstance" p) [e, .Name T p1] [] pos) P := by
  intro X hX B Z H S fp σ E Q q
  refine oE (pe_callB call_isi (ok.gl X hX _ (hG ▸ hg)) (ok.mgn hX bi.isinstance) PyProof.Rows.boot_isinstance (pa_cons pE (pa_cons (pe_bltn (v := .ty n) (ok.gl X hX _ (hG ▸ hT)) (ok.mgn hX (hb bi)) hv rfl (ok.dbgG T (hG ▸ hT)).2 (ok.dbgG T (hG ▸ hT)).1) pa_nil (he2 X)) (he X)) (by decide) (by decide) (he X) (hpl X)) ?_
  refine h X hX B Z H S fp σ E _ fun w v H1 S1 h1 E1 s1 r1 => ?_
  obtain ⟨d, rfl, hP⟩ := h1
  exact ⟨v, .ty n, _, _, g d, rfl, .ty n, Dt.ty E1.sub r1, kit_ty (hk d), q _ _ H1 S1 hP E1 s1 (.bl _)⟩
variable (bi : BiOk c.mg)
include bi
theorem de_abs (hG : c.G = G) (hg : ("abs" : Str) ∈ G) (h : DE c env e fun w => ∃ n, w = .d (.int n) ∧ P (.d (.int (if n < 0 then -n else n))))
    (he : ∀ X : Cx, starEach (e :: []) X.env = (false, eval e X.env) :: starEach [] X.env := by intro _; kernel_rfl) (hpl : ∀ X : Cx, (backTo pos (starEach [] X.env)).any (·.1) = false := by intro _; kernel_rfl) : DE c env (.Call (.Name "abs" p) [e] [] pos) P := by
  intro X hX B Z H S fp σ E Q q
  refine oE (pe_callB call_abs (ok.gl X hX _ (hG ▸ hg)) (ok.mgn hX bi.abs) PyProof.Rows.boot_abs (pa_cons pE pa_nil (he X)) (by decide) (by decide) (he X) (hpl X)) ?_
  refine h X hX B Z H S fp σ E _ fun w v H1 S1 h1 E1 s1 r1 => ?_
  obtain ⟨n, rfl, hP⟩ := h1
  exact ⟨n, by rw [Dt.int_inv (S := S1) r1], q _ _ H1 S1 hP E1 s1 (.int _)⟩
def intD : PD → Option Int
  | .int i => some i
  | .bool k => some (if k then 1 else 0)
  | _ => none
theorem de_toInt (hG : c.G = G) (hg : ("int" : Str) ∈ G) (h : DE c env e fun w => ∃ d n, w = .d d ∧ intD d = some n ∧ P (.d (.int n)))
    (he : ∀ X : Cx, starEach (e :: []) X.env = (false, eval e X.env) :: starEach [] X.env := by intro _; kernel_rfl) (hpl : ∀ X : Cx, (backTo pos (starEach [] X.env)).any (·.1) = false := by intro _; kernel_rfl) : DE c env (.Call (.Name "int" p) [e] [] pos) P := by
  intro X hX B Z H S fp σ E Q q
  refine oE (pe_callTy call_int1 (ok.gl X hX _ (hG ▸ hg)) (ok.mgn hX bi.int) PyProof.Rows.boot_int (pa_cons pE pa_nil (he X)) (by decide) (by decide) (he X) (hpl X)) ?_
  refine h X hX B Z H S fp σ E _ fun w v H1 S1 h1 E1 s1 r1 => ?_
  obtain ⟨d, n, rfl, e1, hP⟩ := h1
  cases d with
  | int i => cases e1; exact .inl ⟨_, by rw [Dt.int_inv (S := S1) r1], q _ _ H1 S1 hP E1 s1 (.int _)⟩
  | bool k => cases e1; exact .inr ⟨_, by rw [Dt.bl_inv (S := S1) r1], q _ _ H1 S1 hP E1 s1 (.int _)⟩
  | _ => cases e1
/-- list(x): a new list of the same -/
def listW : W → Option (List PD)
  | .d (.list ds) => some ds
  | .d (.tuple ds) => some ds
  | .tb kvs => some (kvs.map fun p => .str p.1)
  | _ => none
theorem df_list {P : List PD → Prop} (hG : c.G = G) (hg : ("list" : Str) ∈ G) (h : DE c env e fun w => ∃ ds, listW w = some ds ∧ P ds)
    (he : ∀ X : Cx, starEach (e :: []) X.env = (false, eval e X.env) :: starEach [] X.env := by intro _; kernel_rfl) (hpl : ∀ X : Cx, (backTo pos (starEach [] X.env)).any (·.1) = false := by intro _; kernel_rfl) : DF c env (.Call (.Name "list" p) [e] [] pos) P := by
  intro X hX B Z H S fp σ E Q q
  refine oE (pe_callTy (call_list_of.or (call_listD (ok.calm X hX))) (ok.gl X hX _ (hG ▸ hg)) (ok.mgn hX bi.list) PyProof.Rows.boot_list (pa_cons pE pa_nil (he X)) (by decide) (by decide) (he X) (hpl X)) ?_
  refine h X hX B Z H S fp σ E _ fun w v H1 S1 h1 E1 s1 r1 => ?_
  obtain ⟨ds, e1, hP⟩ := h1
  cases w with
  | d x =>
    cases x with
    | list ds =>
      cases e1
      obtain ⟨a1, xs, rfl, e2, e3⟩ := Dt.list_inv (S := S1) r1
      exact .inl ⟨a1, xs, rfl, .inl (Or.inl (Or.inl (E1.sub _ _ e2))), fun l hl => q _ l _ _ S1 hP (E1.newH hl) s1 (E1.lone hl) upd_same e3⟩
    | tuple ds =>
      cases e1
      obtain ⟨a1, xs, rfl, e2, e3⟩ := Dt.tup_inv (S := S1) r1
      exact .inl ⟨a1, xs, rfl, .inr (Or.inl (Or.inl (E1.sub _ _ e2))), fun l hl => q _ l _ _ S1 hP (E1.newH hl) s1 (E1.lone hl) upd_same e3⟩
    | _ => cases e1
  | tb kvs =>
    cases e1
    obtain ⟨a1, xs, rfl, e2, e3⟩ := r1
    exact .inr ⟨a1, xs, rfl, .inl (E1.sub _ _ e2), fun l hl => q _ l _ _ S1 hP (E1.newH hl) s1 (E1.lone hl) upd_same (keys_all e3)⟩
  | _ => cases e1
/-- tuple(x) -/
theorem de_tuple (hG : c.G = G) (hg : ("tuple" : Str) ∈ G) (h : DE c env e fun w => ∃ ds, (w = .d (.list ds) ∨ w = .d (.tuple ds)) ∧ P (.d (.tuple ds)))
    (he : ∀ X : Cx, starEach (e :: []) X.env = (false, eval e X.env) :: starEach [] X.env := by intro _; kernel_rfl) (hpl : ∀ X : Cx, (backTo pos (starEach [] X.env)).any (·.1) = false := by intro _; kernel_rfl) : DE c env (.Call (.Name "tuple" p) [e] [] pos) P := by
  intro X hX B Z H S fp σ E Q q
  refine oE (pe_callTy call_tuple_of (ok.gl X hX _ (hG ▸ hg)) (ok.mgn hX bi.tuple) PyProof.Rows.boot_tuple (pa_cons pE pa_nil (he X)) (by decide) (by decide) (he X) (hpl X)) ?_
  refine h X hX B Z H S fp σ E _ fun w v H1 S1 h1 E1 s1 r1 => ?_
  obtain ⟨ds, e1, hP⟩ := h1
  rcases e1 with rfl | rfl
  · obtain ⟨a1, xs, rfl, e2, e3⟩ := Dt.list_inv (S := S1) r1
    refine ⟨a1, xs, rfl, .inl ⟨Or.inl (Or.inl (E1.sub _ _ e2)), fun l hl => ?_⟩⟩
    have s2 : Same S1 (upd S1 l (.tup xs)) := same_upd (E1.sub.free hl)
    exact q _ _ _ _ hP (E1.laid hl) (s1.trans s2) (.tup upd_same (DtAll.mono s2 _ _ e3))
  · obtain ⟨a1, xs, rfl, e2, e3⟩ := Dt.tup_inv (S := S1) r1
    exact ⟨a1, xs, rfl, .inr ⟨Or.inl (Or.inl (E1.sub _ _ e2)), q _ _ H1 S1 hP E1 s1 (.tup e2 e3)⟩⟩
/-- dict(x): a copy -/
theorem de_dict (hG : c.G = G) (hg : ("dict" : Str) ∈ G) (h : DE c env e fun w => ∃ kvs, w = .tb kvs ∧ P (.tb kvs))
    (he : ∀ X : Cx, starEach (e :: []) X.env = (false, eval e X.env) :: starEach [] X.env := by intro _; kernel_rfl) (hpl : ∀ X : Cx, (backTo pos (starEach [] X.env)).any (·.1) = false := by intro _; kernel_rfl) : DE c env (.Call (.Name "dict" p) [e] [] pos) P := by
  intro X hX B Z H S fp σ E Q q
  refine oE (pe_callTy call_dictD (ok.gl X hX _ (hG ▸ hg)) (ok.mgn hX bi.dict) PyProof.Rows.boot_dict (pa_cons pE pa_nil (he X)) (by decide) (by decide) (he X) (hpl X)) ?_
  refine h X hX B Z H S fp σ E _ fun w v H1 S1 h1 E1 s1 r1 => ?_
  obtain ⟨kvs, rfl, hP⟩ := h1
  obtain ⟨a1, xs, rfl, e2, e3⟩ := r1
  refine ⟨a1, xs, rfl, .inl (E1.sub _ _ e2), fun l hl => ?_⟩
  have s2 : Same S1 (upd S1 l (.dK xs)) := same_upd (E1.sub.free hl)
  exact q _ _ _ _ hP (E1.laid hl) (s1.trans s2) ⟨l, xs, rfl, upd_same, KvS.mono s2 e3⟩
end
/-! ## 9. What one's own lists and dicts hold, seen while nothing changes -/
inductive FzS : Slot → Slot → Prop
  | r {w : W} : FzS (.r w) (.r w)
  | pool : FzS .pool .pool
  | l {ds : List PD} : FzS (.l ds) (.r (.d (.list ds)))
  | otb {kvs : List (Str × PD)} : FzS (.otb kvs) (.r (.tb kvs))
  | ost {A : Ad} {s : Co} : FzS (.ost A s) (.r (.st s))
  | olg {A : Ad} {L : Led} : FzS (.olg A L) (.r (.lg L))
inductive Fz : En → En → Prop
  | nil : Fz [] []
  | non {e f : En} : Fz e f → Fz (none :: e) (none :: f)
  | som {e f : En} {s t : Slot} : FzS s t → Fz e f → Fz (some s :: e) (some t :: f)
theorem Fz.len {e f : En} (h : Fz e f) : e.length = f.length := by
  induction h with
  | nil => rfl
  | non _ ih => simp [ih]
  | som _ _ ih => simp [ih]
theorem Fz.get {e f : En} (h : Fz e f) : ∀ (i : Nat) t, f[i]? = some (some t) → ∃ s, e[i]? = some (some s) ∧ FzS s t := by
  induction h with
  | nil => intro i t q; simp at q
  | non _ ih =>
    intro i t q
    cases i with
    | zero => simp at q
    | succ i => exact ih i t (by simpa using q)
  | som z _ ih =>
    intro i t q
    cases i with
    | zero => simp at q; subst q; exact ⟨_, rfl, z⟩
    | succ i => exact ih i t (by simpa using q)
noncomputable def plusS (H S : Hp) (fp : Nat → List Addr) : Hp := fun a => open Classical in if ∃ i, a ∈ fp i then H a else S a
noncomputable def minusS (S : Hp) (fp : Nat → List Addr) : Hp := fun a => open Classical in if ∃ i, a ∈ fp i then none else S a
theorem plus_own {H S : Hp} {fp : Nat → List Addr} {i : Nat} {a : Addr} (h : a ∈ fp i) : plusS H S fp a = H a := if_pos ⟨i, h⟩
theorem minus_own {S : Hp} {fp : Nat → List Addr} {i : Nat} {a : Addr} (h : a ∈ fp i) : minusS S fp a = none := if_pos ⟨i, h⟩
theorem plus_not {H S : Hp} {fp : Nat → List Addr} {a : Addr} (h : ∀ i, a ∉ fp i) : plusS H S fp a = S a := if_neg fun ⟨i, q⟩ => h i q
theorem minus_not {S : Hp} {fp : Nat → List Addr} {a : Addr} (h : ∀ i, a ∉ fp i) : minusS S fp a = S a := if_neg fun ⟨i, q⟩ => h i q
section
variable {c : Ctx} {B : Hp} {Z : Addr → Prop} {H S H' S' : Hp} {fp : Nat → List Addr} {σ : L2.St} {env env' : En}
theorem ER.plus_same (E : ER c B Z H S fp σ env) : Same S (plusS H S fp) := fun a o e => by
  have h : ∀ i : Nat, a ∉ fp i := fun i hi => by rw [(E.out i a hi).1] at e; cases e
  rw [plus_not h]; exact e
theorem KvB.plus {H S S' : Hp} (s : Same S S') : ∀ {ps : List (Pl × PD)} {qs : List (List Key × V)} {as : List Addr}, (∀ a ∈ as, S' a = H a) → KvB H S ps qs as → KvT S' ps qs
  | [], [], [], _, _ => .nil
  | p :: ps, q :: qs, a :: as, h, z => by
    obtain ⟨⟨z1, z2, vs, ds, z3, z4, z5⟩, z6⟩ := z
    refine .cons ⟨z1, ?_⟩ (KvB.plus s (fun x hx => h x (by simp [hx])) z6)
    rw [z2, z4]
    exact .lst (by rw [h a (by simp)]; exact z3) (DtAll.mono s _ _ z5)
  | [], [], _ :: _, _, z => z.elim
  | [], _ :: _, _, _, z => by cases ‹List Addr› <;> exact z.elim
  | _ :: _, [], _, _, z => by cases ‹List Addr› <;> exact z.elim
  | _ :: _, _ :: _, [], _, z => z.elim
theorem SRep.frz {v : V} {l : List Addr} {s t : Slot} (hS : Same S S') (hl : ∀ a ∈ l, S' a = H a) (h : SRep c H S v l s) (z : FzS s t) : SRep c H S' v [] t := by
  cases z with
  | r => exact Rep.mono hS h
  | pool => exact h
  | l =>
    obtain ⟨p, vs, e1, e2, e3, e4⟩ := h
    subst e1 e4
    exact .lst (by rw [hl p (by simp)]; exact e2) (DtAll.mono hS _ _ e3)
  | otb =>
    obtain ⟨p, ks, e1, e2, e3, e4⟩ := h
    subst e1 e4
    exact ⟨p, ks, rfl, by rw [hl p (by simp)]; exact e2, e3.mono hS⟩
  | ost =>
    rename_i A s0
    obtain ⟨a, t, m, b, f, o, bl⟩ := A
    obtain ⟨e1, e2, ⟨⟨k1, g1, r1⟩, ⟨k2, g2, r2⟩, ⟨k3, g3, r3, _⟩, ⟨k4, g4, r4⟩, ⟨k5, g5, r5⟩⟩, e4, _⟩ := h
    simp only [Ad.fp] at e4
    subst e1 e4
    exact ⟨_, _, _, _, _, _, rfl, by rw [hl _ (by simp)]; exact e2, ⟨t, k1, rfl, by rw [hl t (by simp)]; exact g1, r1.mono hS⟩, ⟨m, k2, rfl, by rw [hl m (by simp)]; exact g2, r2.mono hS⟩,
      ⟨b, k3, rfl, by rw [hl b (by simp)]; exact g3, r3.plus hS fun x hx => hl x (by simp [hx])⟩, .lst (by rw [hl f (by simp)]; exact g4) (DtAll.mono hS _ _ r4), .lst (by rw [hl o (by simp)]; exact g5) (DtAll.mono hS _ _ r5)⟩
  | olg =>
    rename_i A s0
    obtain ⟨a, t, m, b, f, o, bl⟩ := A
    obtain ⟨dx, tb, e1, e2, et, ⟨⟨k1, g1, r1⟩, ⟨k2, g2, r2⟩, ⟨k3, g3, r3, _⟩, ⟨k4, g4, r4⟩, ⟨k5, g5, r5⟩⟩, e4, _⟩ := h
    simp only [Ad.fp] at e4
    subst e1 e4
    exact ⟨_, dx, _, tb, .ref t, .ref m, .ref b, .ref f, .ref o, rfl, by rw [hl _ (by simp)]; exact e2, by kernel_rfl, by kernel_rfl, by kernel_rfl, by kernel_rfl, by kernel_rfl, by kernel_rfl, by kernel_rfl, rfl, et.mono hS,
      ⟨t, k1, rfl, by rw [hl t (by simp)]; exact g1, r1.mono hS⟩, ⟨m, k2, rfl, by rw [hl m (by simp)]; exact g2, r2.mono hS⟩,
      ⟨b, k3, rfl, by rw [hl b (by simp)]; exact g3, r3.plus hS fun x hx => hl x (by simp [hx])⟩, .lst (by rw [hl f (by simp)]; exact g4) (DtAll.mono hS _ _ r4), .lst (by rw [hl o (by simp)]; exact g5) (DtAll.mono hS _ _ r5)⟩
theorem ER.frz (E : ER c B Z H S fp σ env) (z : Fz env env') : ER c B Z H (plusS H S fp) (fun _ => []) σ env' where
  len := E.len.trans z.len
  sub := fun a o e => by
    by_cases h : ∃ i, a ∈ fp i
    · obtain ⟨i, h⟩ := h; rw [plus_own h] at e; exact e
    · rw [plus_not fun i q => h ⟨i, q⟩] at e; exact E.sub a o e
  prot := E.prot
  forb := fun a za o e => by
    by_cases h : ∃ i, a ∈ fp i
    · obtain ⟨i, h⟩ := h; exact absurd za (E.out i a h).2.2.1
    · rw [plus_not fun i q => h ⟨i, q⟩] at e; exact E.forb a za o e
  zin := E.zin
  slot := fun i t e => by
    obtain ⟨s, e1, e2⟩ := z.get i t e
    obtain ⟨v, e3, e4⟩ := E.slot i s e1
    exact ⟨v, e3, e4.frz E.plus_same (fun a ha => plus_own ha) e2⟩
  out := fun i a h => by simp at h
  sep := fun i j a h => by simp at h
  vis := fun i t x e h => by
    obtain ⟨s, e1, _⟩ := z.get i t e
    exact E.vis i s x e1 h
  pool := fun p q h => by
    obtain ⟨h1, h2⟩ := E.pool p q h
    exact ⟨h1, fun a ha => ⟨by rw [plus_not (h2 a ha).2.2.2]; exact (h2 a ha).1, (h2 a ha).2.1, (h2 a ha).2.2.1, fun i => by simp⟩⟩
theorem ER.unfrz (E : ER c B Z H S fp σ env) (E' : ER c B Z H' S' (fun _ => []) σ env') (s : Same (plusS H S fp) S') : ER c B Z H' (minusS S' fp) fp σ env ∧ Same S (minusS S' fp) := by
  have sS : Same S (minusS S' fp) := fun a o e => by
    have h : ∀ i : Nat, a ∉ fp i := fun i hi => by rw [(E.out i a hi).1] at e; cases e
    rw [minus_not h]
    exact s a o (E.plus_same a o e)
  have own : ∀ {i : Nat} {a : Addr}, a ∈ fp i → H' a = H a := fun {i a} ha => by
    obtain ⟨_, _, _, o, ho, _⟩ := E.out i a ha
    rw [ho]
    exact E'.sub a o (s a o (by rw [plus_own ha]; exact ho))
  refine ⟨⟨E.len, fun a o e => ?_, E'.prot, fun a za o e => ?_, E'.zin, fun i t e => ?_, fun i a ha => ?_, E.sep, E.vis, fun p q h => ?_⟩, sS⟩
  · by_cases h : ∃ i, a ∈ fp i
    · obtain ⟨i, h⟩ := h; rw [minus_own h] at e; cases e
    · rw [minus_not fun i q => h ⟨i, q⟩] at e; exact E'.sub a o e
  · by_cases h : ∃ i, a ∈ fp i
    · obtain ⟨i, h⟩ := h; rw [minus_own h] at e; cases e
    · rw [minus_not fun i q => h ⟨i, q⟩] at e; exact E'.forb a za o e
  · obtain ⟨v, e1, e2⟩ := E.slot i t e
    exact ⟨v, e1, e2.stay sS fun a ha => own ha⟩
  · obtain ⟨h1, h2, h3, o, ho, ht⟩ := E.out i a ha
    exact ⟨minus_own ha, h2, h3, o, (own ha).trans ho, ht⟩
  · obtain ⟨h1, h2⟩ := E.pool p q h
    obtain ⟨g1, g2⟩ := E'.pool p q h
    exact ⟨g1, fun a ha => ⟨by rw [minus_not (h2 a ha).2.2.2]; exact (g2 a ha).1, (h2 a ha).2.1, (h2 a ha).2.2.1, (h2 a ha).2.2.2⟩⟩
theorem ER.minus_tups (E : ER c B Z H S fp σ env) (E' : ER c B Z H' S' (fun _ => []) σ env') (s : Same (plusS H S fp) S') : Tups S' (minusS S' fp) := fun a xs e => by
  by_cases h : ∃ i, a ∈ fp i
  · obtain ⟨i, h⟩ := h
    obtain ⟨_, _, _, o, ho, ht⟩ := E.out i a h
    have q := s a o (by rw [plus_own h]; exact ho)
    rw [e] at q; cases q; cases ht
  · rw [minus_not fun i q => h ⟨i, q⟩]; exact e
end
def immW : W → Bool
  | .d x => imm x
  | _ => false
section
variable {c : Ctx} {env env' : En} {e : Expr}
theorem de_view {P : W → Prop} (z : Fz env env') (h : DE c env' e fun w => immW w = true ∧ P w) : DE c env e P := fun X hX B Z H S fp σ E Q q =>
  h X hX B Z H _ _ σ (E.frz z) Q fun w v H' S' p E' s r => by
    obtain ⟨g1, g2⟩ := E.unfrz E' s
    refine q w v H' _ p.2 g1 g2 ?_
    cases w with
    | d x => exact Dt.imm (E.minus_tups E' s) x v p.1 r
    | _ => exact absurd p.1 Bool.false_ne_true
theorem dt_view {R : Bool → Prop} (z : Fz env env') (h : DT c env' e R) : DT c env e R := fun X hX B Z H S fp σ E Q q =>
  h X hX B Z H _ _ σ (E.frz z) Q fun k H' S' p E' s => by
    obtain ⟨g1, g2⟩ := E.unfrz E' s
    exact q k H' _ p g1 g2
theorem df_view {P : List PD → Prop} (z : Fz env env') (h : DF c env' e fun ds => immAll ds = true ∧ P ds) : DF c env e P := fun X hX B Z H S fp σ E Q q =>
  h X hX B Z H _ _ σ (E.frz z) Q fun ds p vs H' S' hp E' s n1 hl r => by
    obtain ⟨g1, g2⟩ := E.unfrz E' s
    have nf : ∀ i : Nat, p ∉ fp i := fun i hi => by
      obtain ⟨_, _, _, o, ho, _⟩ := E.out i p hi
      have := s p o (by rw [plus_own hi]; exact ho)
      rw [n1.s] at this; cases this
    exact q ds p vs H' _ hp.2 g1 g2 ⟨by rw [minus_not nf]; exact n1.s, n1.b, n1.z, nf, n1.pl⟩ hl (DtAll.imm (E.minus_tups E' s) ds vs hp.1 r)
end
/-! ## 10. Promises, calls -/
/-- the region has grown by new objects (and by tuples) -/
structure Out (H S H' S' : Hp) : Prop where
  s : Same S S'
  sub : Same S' H'
  new : ∀ a o, S' a = some o → S a = none → H a = none ∨ isTup o = true
def SpD {α : Type} (C : Addr) (ar : α → List W) (po : α → W → Prop) : Sp := fun vs H Q _ => ∃ x S, Same S H ∧ Reps C S vs (ar x) ∧ ∀ w v H' S', po x w → Same H H' → Out H S H' S' → Rep C S' v w → Q v H'
def SpF {α : Type} (C : Addr) (ar : α → List W) (po : α → List PD → Prop) : Sp := fun vs H Q _ => ∃ x S, Same S H ∧ Reps C S vs (ar x) ∧
  ∀ ds p ws H' S', po x ds → Same H H' → Out H S H' S' → H p = none → S' p = none → H' p = some (.lst ws) → DtAll S' ws ds → Q (.ref p) H'
def KeepP (p q : Addr) (H H' : Hp) : Prop := ∀ a o, H a = some o → a ≠ p → a ≠ q → H' a = some o
def SpDP {α : Type} (C : Addr) (ar : α → List W) (po : α → W → Prop) : Sp := fun vs H Q _ => ∃ x S p q us, vs = .ref p :: us ∧ PoolAt H p q ∧ S p = none ∧ S q = none ∧ Same S H ∧ Reps C S us (ar x) ∧
  ∀ w v H' S', po x w → KeepP p q H H' → PoolAt H' p q → Out H S H' S' → Rep C S' v w → Q v H'
def SpFP {α : Type} (C : Addr) (ar : α → List W) (po : α → List PD → Prop) : Sp := fun vs H Q _ => ∃ x S p q us, vs = .ref p :: us ∧ PoolAt H p q ∧ S p = none ∧ S q = none ∧ Same S H ∧ Reps C S us (ar x) ∧
  ∀ ds l ws H' S', po x ds → KeepP p q H H' → PoolAt H' p q → Out H S H' S' → H l = none → S' l = none → H' l = some (.lst ws) → DtAll S' ws ds → Q (.ref l) H'
/-- a def of the module; a method of the Ledger -/
structure FnG (P : Program) (w : World) (K : PySem.W.Frag) (mg : Str → Option Value) (base : Heap) (x : Str) (k : Nat) (sp : Sp) : Prop where
  ex : ∃ f fd ps, FnOk P w K mg base CX0 k f fd ps sp ∧ mg x = some (.ref f) ∧ PySem.W.keepIn K (.ref f) = true ∧ Binds K fd ps []
structure MeG (P : Program) (w : World) (K : PySem.W.Frag) (mg : Str → Option Value) (base : Heap) (C : Addr) (m : Str) (k : Nat) (sp : Sp) : Prop where
  ex : ∃ f fd ps, FnOk P w K mg base CX0 k f fd ps sp ∧ Meth K C m f ∧ Binds K fd ps []
abbrev Fn (c : Ctx) (x : Str) (sp : Sp) : Prop := ∃ k, k ≤ c.k ∧ FnG c.P c.w c.K c.mg c.base x k sp
abbrev Me (c : Ctx) (m : Str) (sp : Sp) : Prop := ∃ k, k ≤ c.k ∧ MeG c.P c.w c.K c.mg c.base c.C m k sp
section
variable {c : Ctx} {B : Hp} {Z : Addr → Prop} {H S H' S' : Hp} {fp : Nat → List Addr} {σ : L2.St} {env : En}
theorem ER.called (E : ER c B Z H S fp σ env) (h : Same H H') (o : Out H S H' S') : ER c B Z H' S' fp σ env := E.grow h o.s o.sub o.new
theorem ER.calledP (E : ER c B Z H S fp σ env) {p q : Addr} (hp : c.pl = some (p, q)) (h : KeepP p q H H') (g : PoolAt H' p q) (o : Out H S H' S') : ER c B Z H' S' fp σ env :=
  E.growP (fun a u e z => h a u e (z p q hp).1 (z p q hp).2) (fun p' q' hp' => by rw [hp] at hp'; cases hp'; exact g) o.s o.sub o.new
inductive LkP : List Str → En → Str → Prop
  | z {x : Str} {N : List Str} {env : En} : LkP (x :: N) (some .pool :: env) x
  | s {x y : Str} {N : List Str} {e : Option Slot} {env : En} : LkP N env x → LkP (y :: N) (e :: env) x
theorem LkP.get {N : List Str} {env : En} {x : Str} (h : LkP N env x) : ∃ i : Nat, N[i]? = some x ∧ env[i]? = some (some .pool) := by
  induction h with
  | z => exact ⟨0, rfl, rfl⟩
  | s _ ih => obtain ⟨i, h1, h2⟩ := ih; exact ⟨i + 1, by simpa using h1, by simpa using h2⟩
variable (ok : COk c) {N G : List Str} {pos p : Pos} {P : W → Prop} {e : Expr} {es : List Expr} {x : Str} {α : Type} {ar : α → List W}
include ok
theorem COk.fn {X : Cx} (hX : c.F X) {sp : Sp} (F : Fn c x sp) : ∃ k f fd ps, FnOk X.prog X.w X.K X.mg X.base CX0 k f fd ps sp ∧ Room k X.A ∧ X.mg x = some (.ref f) ∧ PySem.W.keepIn X.K (.ref f) = true ∧ Binds X.K fd ps [] := by
  obtain ⟨k, hk, f, fd, ps, h1, h2, h3, h4⟩ := F
  obtain ⟨e1, e2, e3, e4, e5⟩ := ok.eqs X hX
  rw [e1, e2, e3, e4, e5]
  exact ⟨k, f, fd, ps, h1, (ok.room X hX).mono hk, h2, h3, h4⟩
theorem COk.me {X : Cx} (hX : c.F X) {m : Str} {sp : Sp} (F : Me c m sp) : ∃ k f fd ps, FnOk X.prog X.w X.K X.mg X.base CX0 k f fd ps sp ∧ Room k X.A ∧ Meth X.K c.C m f ∧ Binds X.K fd ps [] := by
  obtain ⟨k, hk, f, fd, ps, h1, h2, h3⟩ := F
  obtain ⟨e1, e2, e3, e4, e5⟩ := ok.eqs X hX
  rw [e1, e2, e3, e4, e5]
  exact ⟨k, f, fd, ps, h1, (ok.room X hX).mono hk, h2, h3⟩
theorem de_call {po : α → W → Prop} (F : Fn c x (SpD c.C ar po)) (hG : c.G = G) (hg : x ∈ G) (h : DA c env (e :: es) fun ws => ∃ z, ws = ar z ∧ ∀ w, po z w → P w)
    (he : ∀ X : Cx, starEach (e :: es) X.env = (false, eval e X.env) :: starEach es X.env := by intro _; kernel_rfl) (hpl : ∀ X : Cx, (backTo pos (starEach es X.env)).any (·.1) = false := by intro _; kernel_rfl) : DE c env (.Call (.Name x p) (e :: es) [] pos) P := by
  intro X hX B Z H S fp σ E Q q
  obtain ⟨k, f, fd, ps, FO, hr, hm, hk, hb⟩ := ok.fn hX F
  refine oE (pe_call FO hr (ok.gl X hX x (hG ▸ hg)) hm hk hb .nil pass0 pA (ok.dbgG x (hG ▸ hg)).1 (he X) (hpl X)) ?_
  refine h X hX B Z H S fp σ E _ fun ws vs H1 S1 h1 E1 s1 r1 => ?_
  obtain ⟨z, rfl, hP⟩ := h1
  refine ⟨z, S1, E1.sub, by rw [List.append_nil]; exact r1, fun w v H2 S2 hw s2 o r2 => ?_⟩
  exact q w v H2 S2 (hP w hw) (E1.called s2 o) (s1.trans o.s) r2
theorem df_call {P : List PD → Prop} {po : α → List PD → Prop} (F : Fn c x (SpF c.C ar po)) (hG : c.G = G) (hg : x ∈ G) (h : DA c env (e :: es) fun ws => ∃ z, ws = ar z ∧ ∀ ds, po z ds → P ds)
    (he : ∀ X : Cx, starEach (e :: es) X.env = (false, eval e X.env) :: starEach es X.env := by intro _; kernel_rfl) (hpl : ∀ X : Cx, (backTo pos (starEach es X.env)).any (·.1) = false := by intro _; kernel_rfl) : DF c env (.Call (.Name x p) (e :: es) [] pos) P := by
  intro X hX B Z H S fp σ E Q q
  obtain ⟨k, f, fd, ps, FO, hr, hm, hk, hb⟩ := ok.fn hX F
  refine oE (pe_call FO hr (ok.gl X hX x (hG ▸ hg)) hm hk hb .nil pass0 pA (ok.dbgG x (hG ▸ hg)).1 (he X) (hpl X)) ?_
  refine h X hX B Z H S fp σ E _ fun ws vs H1 S1 h1 E1 s1 r1 => ?_
  obtain ⟨z, rfl, hP⟩ := h1
  refine ⟨z, S1, E1.sub, by rw [List.append_nil]; exact r1, fun ds l us H2 S2 hw s2 o n1 n2 hl r2 => ?_⟩
  have L := E1.lone n1
  exact q ds l us H2 S2 (hP ds hw) (E1.called s2 o) (s1.trans o.s) ⟨n2, L.b, L.z, L.f, L.pl⟩ hl r2
theorem de_callP {y : Str} {p1 : Pos} {po : α → W → Prop} (F : Fn c x (SpDP c.C ar po)) (hN : c.N = N) (hy : LkP N env y) (hG : c.G = G) (hg : x ∈ G) (h : DA c env es fun ws => ∃ z, ws = ar z ∧ ∀ w, po z w → P w)
    (he : ∀ X : Cx, starEach (Expr.Name y p1 :: es) X.env = (false, eval (Expr.Name y p1) X.env) :: starEach es X.env := by intro _; kernel_rfl) (hpl : ∀ X : Cx, (backTo pos (starEach es X.env)).any (·.1) = false := by intro _; kernel_rfl) : DE c env (.Call (.Name x p) (.Name y p1 :: es) [] pos) P := by
  intro X hX B Z H S fp σ E Q q
  obtain ⟨k, f, fd, ps, FO, hr, hm, hk, hb⟩ := ok.fn hX F
  obtain ⟨i, h1, h2⟩ := hy.get
  obtain ⟨v, h3, p0, q0, rfl, h4⟩ := E.slot i _ h2
  have hn : X.N[i]? = some y := by rw [ok.N X hX, hN]; exact h1
  refine oE (pe_call FO hr (ok.gl X hX x (hG ▸ hg)) hm hk hb .nil pass0 (pa_cons (pe_var (i := i) hn (ok.vis X hX y (E.vis i _ y h2 (by rw [hN]; exact h1))) (ok.dbg y (E.vis i _ y h2 (by rw [hN]; exact h1))).1 (ok.dbg y (E.vis i _ y h2 (by rw [hN]; exact h1))).2) pA (he X)) (ok.dbgG x (hG ▸ hg)).1 (he X) (hpl X)) ?_
  refine ⟨_, h3, ?_⟩
  refine h X hX B Z H S fp σ E _ fun ws vs H1 S1 h1 E1 s1 r1 => ?_
  obtain ⟨z, rfl, hP⟩ := h1
  obtain ⟨g1, g2⟩ := E1.pool p0 q0 h4
  refine ⟨z, S1, p0, q0, vs, by rw [List.append_nil], g1, (g2 _ (.inl rfl)).1, (g2 _ (.inr rfl)).1, E1.sub, r1, fun w v H2 S2 hw s2 g3 o r2 => ?_⟩
  exact q w v H2 S2 (hP w hw) (E1.calledP h4 s2 g3 o) (s1.trans o.s) r2
theorem df_callP {P : List PD → Prop} {y : Str} {p1 : Pos} {po : α → List PD → Prop} (F : Fn c x (SpFP c.C ar po)) (hN : c.N = N) (hy : LkP N env y) (hG : c.G = G) (hg : x ∈ G) (h : DA c env es fun ws => ∃ z, ws = ar z ∧ ∀ ds, po z ds → P ds)
    (he : ∀ X : Cx, starEach (Expr.Name y p1 :: es) X.env = (false, eval (Expr.Name y p1) X.env) :: starEach es X.env := by intro _; kernel_rfl) (hpl : ∀ X : Cx, (backTo pos (starEach es X.env)).any (·.1) = false := by intro _; kernel_rfl) : DF c env (.Call (.Name x p) (.Name y p1 :: es) [] pos) P := by
  intro X hX B Z H S fp σ E Q q
  obtain ⟨k, f, fd, ps, FO, hr, hm, hk, hb⟩ := ok.fn hX F
  obtain ⟨i, h1, h2⟩ := hy.get
  obtain ⟨v, h3, p0, q0, rfl, h4⟩ := E.slot i _ h2
  have hn : X.N[i]? = some y := by rw [ok.N X hX, hN]; exact h1
  refine oE (pe_call FO hr (ok.gl X hX x (hG ▸ hg)) hm hk hb .nil pass0 (pa_cons (pe_var (i := i) hn (ok.vis X hX y (E.vis i _ y h2 (by rw [hN]; exact h1))) (ok.dbg y (E.vis i _ y h2 (by rw [hN]; exact h1))).1 (ok.dbg y (E.vis i _ y h2 (by rw [hN]; exact h1))).2) pA (he X)) (ok.dbgG x (hG ▸ hg)).1 (he X) (hpl X)) ?_
  refine ⟨_, h3, ?_⟩
  refine h X hX B Z H S fp σ E _ fun ws vs H1 S1 h1 E1 s1 r1 => ?_
  obtain ⟨z, rfl, hP⟩ := h1
  obtain ⟨g1, g2⟩ := E1.pool p0 q0 h4
  refine ⟨z, S1, p0, q0, vs, by rw [List.append_nil], g1, (g2 _ (.inl rfl)).1, (g2 _ (.inr rfl)).1, E1.sub, r1, fun ds l us H2 S2 hw s2 g3 o n1 n2 hl r2 => ?_⟩
  have L := E1.lone n1
  exact q ds l us H2 S2 (hP ds hw) (E1.calledP h4 s2 g3 o) (s1.trans o.s) ⟨n2, L.b, L.z, L.f, L.pl⟩ hl r2
/-! ### the Ledger: attributes, methods -/
omit ok
structure LdOk (K : PySem.W.Frag) (C : Addr) : Prop where
  cl : Cls K C
  na : ∀ f ∈ ledN, NoAttr K C f
inductive Fld : Str → Led → W → Prop
  | tab {L : Led} : Fld "_table" L (.tb L.tab)
  | talks {L : Led} : Fld "_talks" L (.dt L.c.t)
  | marks {L : Led} : Fld "_marks" L (.dt L.c.m)
  | boxes {L : Led} : Fld "_boxes" L (.dt L.c.b)
  | opened {L : Led} : Fld "_opened" L (.d (.int L.n))
  | fin {L : Led} : Fld "_finished" L (.d (.list L.c.f))
  | owed {L : Led} : Fld "_owed" L (.d (.list L.c.o))
include ok
theorem de_fld {f : Str} (ld : LdOk c.K c.C) (h : DE c env e fun w => ∃ L r, w = .lg L ∧ Fld f L r ∧ P r) (hb : ∀ X : Cx, attributeBase e f X.env (eval e X.env) = eval e X.env := by intro _; kernel_rfl) : DE c env (.Attribute e f pos) P := by
  intro X hX B Z H S fp σ E Q q
  refine oE (pe_fld pE (hb X)) ?_
  refine h X hX B Z H S fp σ E _ fun w v H1 S1 h1 E1 s1 r1 => ?_
  obtain ⟨L, r, rfl, hf, hP⟩ := h1
  obtain ⟨a, dx, fs, tb, t, m, b, fi, o, rfl, e2, l1, l2, l3, l4, l5, l6, l7, lm, g0, g1, g2, g3, g4, g5⟩ := r1
  have hK : X.K = c.K := (ok.eqs X hX).2.2.1
  rw [hK]
  have fin : ∀ {y : V}, fs.lookup f = some y → Rep c.C S1 y r → f ∈ ledN → ∃ a1 C dx fs1 v, V.ref a = .ref a1 ∧ H1 a1 = some (.ins C dx fs1) ∧ Cls c.K C ∧ NoAttr c.K C f ∧ fs1.lookup f = some v ∧ Q v H1 := fun {y} e3 e4 e5 =>
    ⟨a, c.C, dx, fs, y, rfl, E1.sub _ _ e2, ld.cl, ld.na f e5, e3, q r y H1 S1 hP E1 s1 e4⟩
  cases hf with
  | tab => exact fin l1 g0 (by decide)
  | talks => exact fin l2 g1 (by decide)
  | marks => exact fin l3 g2 (by decide)
  | boxes => exact fin l4 g3 (by decide)
  | opened => exact fin l5 (Dt.int _) (by decide)
  | fin => exact fin l6 g4 (by decide)
  | owed => exact fin l7 g5 (by decide)
theorem no_look {m : Str} {fs : List (Str × V)} (h : fs.map (·.1) = ledN) (hm : m ∉ ledN) : fs.lookup m = none := by
  cases e : fs.lookup m with
  | none => rfl
  | some v =>
    refine absurd ?_ hm
    rw [← h]
    have := PySem.mem_of_lookup e
    exact List.mem_map.mpr ⟨_, this, rfl⟩
theorem de_meth {o : Expr} {m : Str} {apos : Pos} {po : α → W → Prop} (ld : LdOk c.K c.C) (F : Me c m (SpD c.C ar po)) (hm : m ∉ ledN) (h : DE c env o fun w => ∃ L, w = .lg L ∧ DA c env (e :: es) fun ws => ∃ z, .lg L :: ws = ar z ∧ ∀ r, po z r → P r)
    (he : ∀ X : Cx, starEach (e :: es) X.env = (false, eval e X.env) :: starEach es X.env := by intro _; kernel_rfl) (hpl : ∀ X : Cx, (backTo pos (starEach es X.env)).any (·.1) = false := by intro _; kernel_rfl) {pl : Cx → Sem Bool}
    (ht : ∀ X : Cx, eval (.Call (.Attribute o m apos) (e :: es) [] pos) X.env = (do
      let ov ← eval o X.env
      standAt apos.atName
      let (f, first) ← holding [ov] (getMethod ov m (pl X))
      callWith pos f first (backTo pos (starEach (e :: es) X.env)) (backToKw pos (keywordEach [] X.env))) := by intro _; rfl) : DE c env (.Call (.Attribute o m apos) (e :: es) [] pos) P := by
  intro X hX B Z H S fp σ E Q q
  obtain ⟨k, f, fd, ps, FO, hr, hme, hb⟩ := ok.me hX F
  have hK : X.K = c.K := (ok.eqs X hX).2.2.1
  refine oE (pe_meth pE (by rw [hK]; exact ld.cl) hme FO hr hb .nil pass0 pA (he X) (hpl X) (ht X)) ?_
  refine h X hX B Z H S fp σ E _ fun w v H1 S1 h1 E1 s1 r1 => ?_
  obtain ⟨L, rfl, h1⟩ := h1
  obtain ⟨a, dx, fs, _, _, _, _, _, _, ev, e2, _, _, _, _, _, _, _, lm, _⟩ := id r1
  refine ⟨a, dx, fs, ev, E1.sub _ _ e2, no_look ok lm hm, ?_⟩
  refine h1 X hX B Z H1 S1 fp σ E1 _ fun ws vs H2 S2 h2 E2 s2 r2 => ?_
  obtain ⟨z, ez, hP⟩ := h2
  refine ⟨z, S2, E2.sub, by rw [List.append_nil, ← ez]; exact .cons (Rep.mono s2 r1) r2, fun w v H3 S3 hw s3 ot r3 => ?_⟩
  exact q w v H3 S3 (hP w hw) (E2.called s3 ot) ((s1.trans s2).trans ot.s) r3
end
/-! ## 11. Statements -/
structure Kt where
  nx : En → Prop
  rt : W → En → Prop
  rl : List PD → En → Prop
  bk : En → Prop
  ct : En → Prop
structure KOk (c : Ctx) (B : Hp) (Z : Addr → Prop) (S : Hp) (κ : Kt) (D : Ends) : Prop where
  nx : ∀ env H' S' fp σ, κ.nx env → ER c B Z H' S' fp σ env → Same S S' → D.nx σ H'
  rt : ∀ w v env H' S' fp σ, κ.rt w env → ER c B Z H' S' fp σ env → Same S S' → Rep c.C S' v w → D.rt v H'
  rl : ∀ ds p vs env H' S' fp σ, κ.rl ds env → ER c B Z H' S' fp σ env → Same S S' → S' p = none → B p = none → ¬ Z p → (∀ x y, c.pl = some (x, y) → p ≠ x ∧ p ≠ y) → H' p = some (.lst vs) → DtAll S' vs ds → D.rt (.ref p) H'
  bk : ∀ env H' S' fp σ, κ.bk env → ER c B Z H' S' fp σ env → Same S S' → D.bk σ H'
  ct : ∀ env H' S' fp σ, κ.ct env → ER c B Z H' S' fp σ env → Same S S' → D.ct σ H'
theorem KOk.mono {c : Ctx} {B : Hp} {Z : Addr → Prop} {S S1 : Hp} {κ : Kt} {D : Ends} (k : KOk c B Z S κ D) (s : Same S S1) : KOk c B Z S1 κ D :=
  ⟨fun _ _ _ _ _ p E q => k.nx _ _ _ _ _ p E (s.trans q), fun _ _ _ _ _ _ _ p E q => k.rt _ _ _ _ _ _ _ p E (s.trans q), fun _ _ _ _ _ _ _ _ p E q => k.rl _ _ _ _ _ _ _ _ p E (s.trans q), fun _ _ _ _ _ p E q => k.bk _ _ _ _ _ p E (s.trans q), fun _ _ _ _ _ p E q => k.ct _ _ _ _ _ p E (s.trans q)⟩
def DS (c : Ctx) (env : En) (st : Stmt) (κ : Kt) : Prop := ∀ X, c.F X → ∀ B Z H S fp σ, ER c B Z H S fp σ env → ∀ D, KOk c B Z S κ D → sS X st D σ H
def DSs (c : Ctx) (env : En) (sts : List Stmt) (κ : Kt) : Prop := ∀ X, c.F X → ∀ B Z H S fp σ, ER c B Z H S fp σ env → ∀ D, KOk c B Z S κ D → sSs X sts D σ H
inductive Up : List Str → En → Str → Slot → En → Prop
  | z {x : Str} {N : List Str} {s : Slot} {e : Option Slot} {env : En} : Up (x :: N) (e :: env) x s (some s :: env)
  | s {x y : Str} {N : List Str} {s : Slot} {e : Option Slot} {env env' : En} : Up N env x s env' → Up (y :: N) (e :: env) x s (e :: env')
theorem Up.get {N : List Str} {env env' : En} {x : Str} {s : Slot} (h : Up N env x s env') : ∃ i : Nat, N[i]? = some x ∧ i < env.length ∧ env' = env.set i (some s) := by
  induction h with
  | z => exact ⟨0, rfl, by simp, rfl⟩
  | s _ ih => obtain ⟨i, h1, h2, h3⟩ := ih; exact ⟨i + 1, by simpa using h1, by simpa using h2, by rw [h3]; rfl⟩
section
variable {c : Ctx} {B : Hp} {Z : Addr → Prop} {H S H' S' : Hp} {fp : Nat → List Addr} {σ : L2.St} {env env' : En} {N : List Str}
theorem ER.setR (ok : COk c) (E : ER c B Z H S fp σ env) {i : Nat} {x : Str} {v : V} {w : W} (hN : c.N[i]? = some x) (hx : c.Vi x) (hi : i < env.length) (r : Rep c.C S v w) : ER c B Z H S fp (σ.set i (some v)) (env.set i (some (.r w))) where
  len := by rw [List.length_set, List.length_set]; exact E.len
  sub := E.sub
  prot := E.prot
  forb := E.forb
  zin := E.zin
  slot := fun j s e => by
    by_cases h : i = j
    · subst h
      rw [List.getElem?_set_self hi] at e
      cases e
      exact ⟨v, List.getElem?_set_self (by rw [E.len]; exact hi), r⟩
    · rw [List.getElem?_set_ne h] at e
      rw [List.getElem?_set_ne h]
      exact E.slot j s e
  out := E.out
  sep := E.sep
  vis := fun j s y e h => by
    by_cases h2 : i = j
    · subst h2
      rw [hN] at h; cases h; exact hx
    · rw [List.getElem?_set_ne h2] at e
      exact E.vis j s y e h
  pool := E.pool
/-- a new slot of one's own, its objects claimed by nothing so far -/
theorem ER.setO (ok : COk c) (E : ER c B Z H S fp σ env) {i : Nat} {x : Str} {v : V} {s : Slot} {l : List Addr} (hN : c.N[i]? = some x) (hx : c.Vi x) (hi : i < env.length) (r : SRep c H S v l s) (hl : ∀ a ∈ l, Lone c B Z S fp a ∧ ∃ o, H a = some o ∧ isTup o = false) :
    ER c B Z H S (fun j => if j = i then l else fp j) (σ.set i (some v)) (env.set i (some s)) where
  len := by rw [List.length_set, List.length_set]; exact E.len
  sub := E.sub
  prot := E.prot
  forb := E.forb
  zin := E.zin
  slot := fun j t e => by
    by_cases h : i = j
    · subst h
      rw [List.getElem?_set_self hi] at e
      cases e
      exact ⟨v, List.getElem?_set_self (by rw [E.len]; exact hi), by rw [if_pos rfl]; exact r⟩
    · rw [List.getElem?_set_ne h] at e
      rw [List.getElem?_set_ne h, if_neg (Ne.symm h)]
      exact E.slot j t e
  out := fun j a ha => by
    by_cases h : j = i
    · rw [if_pos h] at ha
      obtain ⟨q, q2⟩ := hl a ha
      exact ⟨q.s, q.b, q.z, q2⟩
    · rw [if_neg h] at ha
      exact E.out j a ha
  sep := fun j k a h1 h2 => by
    by_cases e1 : j = i
    · by_cases e2 : k = i
      · rw [e1, e2]
      · rw [if_pos e1] at h1
        rw [if_neg e2] at h2
        exact absurd h2 ((hl a h1).1.f k)
    · by_cases e2 : k = i
      · rw [if_neg e1] at h1
        rw [if_pos e2] at h2
        exact absurd h1 ((hl a h2).1.f j)
      · rw [if_neg e1] at h1
        rw [if_neg e2] at h2
        exact E.sep j k a h1 h2
  vis := fun j t y e h => by
    by_cases h2 : i = j
    · subst h2
      rw [hN] at h; cases h; exact hx
    · rw [List.getElem?_set_ne h2] at e
      exact E.vis j t y e h
  pool := fun p q h => by
    obtain ⟨h1, h2⟩ := E.pool p q h
    refine ⟨h1, fun a ha => ?_⟩
    obtain ⟨q1, q2, q3, q4⟩ := h2 a ha
    refine ⟨q1, q2, q3, fun j => ?_⟩
    by_cases e : j = i
    · rw [if_pos e]
      intro hm
      obtain ⟨n1, n2⟩ := (hl a hm).1.pl p q h
      rcases ha with z | z
      · exact n1 z
      · exact n2 z
    · rw [if_neg e]; exact q4 j
/-- a change of one's own objects -/
theorem ER.chg (E : ER c B Z H S fp σ env) {i : Nat} {s' : Slot} {v : V} {l' : List Addr} (hv : σ[i]? = some (some v)) (hi : ∃ s, env[i]? = some (some s)) (hS : Same S S') (sub : Same S' H')
    (keep : ∀ a o, H a = some o → a ∉ fp i → H' a = some o) (new : ∀ a ∈ l', (a ∈ fp i ∨ Lone c B Z S fp a) ∧ S' a = none ∧ ∃ o, H' a = some o ∧ isTup o = false)
    (fr : ∀ a o, S' a = some o → S a = none → H a = none ∨ isTup o = true ∨ a ∈ fp i) (r : SRep c H' S' v l' s') : ER c B Z H' S' (fun j => if j = i then l' else fp j) σ (env.set i (some s')) where
  len := by rw [List.length_set]; exact E.len
  sub := sub
  prot := fun a o e => keep a o (E.prot a o e) fun h => by rw [(E.out i a h).2.1] at e; cases e
  forb := fun a za o e => by
    cases h : S a with
    | some u =>
      have q := hS a u h
      rw [e] at q; cases q
      exact E.forb a za _ h
    | none =>
      rcases fr a o e h with z | z | z
      · exact absurd z (E.zin a za)
      · exact z
      · exact absurd za (E.out i a z).2.2.1
  zin := fun a za e => by
    cases h : H a with
    | none => exact E.zin a za h
    | some o =>
      by_cases hf : a ∈ fp i
      · exact absurd za (E.out i a hf).2.2.1
      · rw [keep a o h hf] at e; cases e
  slot := fun j t e => by
    obtain ⟨s, hs⟩ := hi
    have hlt : i < env.length := (List.getElem?_eq_some_iff.mp hs).1
    by_cases h : i = j
    · subst h
      rw [List.getElem?_set_self hlt] at e
      cases e
      exact ⟨v, hv, by rw [if_pos rfl]; exact r⟩
    · rw [List.getElem?_set_ne h] at e
      obtain ⟨y, e1, e2⟩ := E.slot j t e
      refine ⟨y, e1, ?_⟩
      rw [if_neg (Ne.symm h)]
      refine e2.stay hS fun a ha => ?_
      obtain ⟨_, _, _, o, ho, _⟩ := E.out j a ha
      rw [ho]
      exact keep a o ho fun h3 => h (E.sep i j a h3 ha)
  out := fun j a ha => by
    by_cases h : j = i
    · rw [if_pos h] at ha
      obtain ⟨q, q2, q3⟩ := new a ha
      rcases q with q | q
      · exact ⟨q2, (E.out i a q).2.1, (E.out i a q).2.2.1, q3⟩
      · exact ⟨q2, q.b, q.z, q3⟩
    · rw [if_neg h] at ha
      obtain ⟨h1, h2, h3, o, ho, ht⟩ := E.out j a ha
      have ho' := keep a o ho fun h4 => h (E.sep j i a ha h4)
      refine ⟨?_, h2, h3, o, ho', ht⟩
      cases q : S' a with
      | none => rfl
      | some u =>
        rcases fr a u q h1 with z | z | z
        · rw [ho] at z; cases z
        · have q2 := sub a u q
          rw [ho'] at q2; cases q2
          rw [ht] at z; cases z
        · exact absurd (E.sep j i a ha z) h
  sep := fun j k a h1 h2 => by
    by_cases e1 : j = i
    · by_cases e2 : k = i
      · rw [e1, e2]
      · rw [if_pos e1] at h1
        rw [if_neg e2] at h2
        rcases (new a h1).1 with z | z
        · exact absurd (E.sep k i a h2 z) e2
        · exact absurd h2 (z.f k)
    · by_cases e2 : k = i
      · rw [if_neg e1] at h1
        rw [if_pos e2] at h2
        rcases (new a h2).1 with z | z
        · exact absurd (E.sep j i a h1 z) e1
        · exact absurd h1 (z.f j)
      · rw [if_neg e1] at h1
        rw [if_neg e2] at h2
        exact E.sep j k a h1 h2
  vis := fun j t y e h => by
    obtain ⟨s, hs⟩ := hi
    by_cases h2 : i = j
    · subst h2
      exact E.vis i s y hs h
    · rw [List.getElem?_set_ne h2] at e
      exact E.vis j t y e h
  pool := fun p q h => by
    obtain ⟨h1, h2⟩ := E.pool p q h
    have k : ∀ a, a = p ∨ a = q → H' a = H a := fun a ha => by
      obtain ⟨o, ho, _⟩ := h1.there ha
      rw [ho]
      exact keep a o ho ((h2 a ha).2.2.2 i)
    refine ⟨h1.stay (k p (.inl rfl)) (k q (.inr rfl)), fun a ha => ?_⟩
    obtain ⟨q1, q2, q3, q4⟩ := h2 a ha
    obtain ⟨o, ho, ht⟩ := h1.there ha
    refine ⟨?_, q2, q3, fun j => ?_⟩
    · cases q : S' a with
      | none => rfl
      | some u =>
        rcases fr a u q q1 with z | z | z
        · rw [ho] at z; cases z
        · have q5 := sub a u q
          rw [k a ha, ho] at q5; cases q5
          rw [ht] at z; cases z
        · exact absurd z (q4 i)
    · by_cases e : j = i
      · rw [if_pos e]
        intro hm
        rcases (new a hm).1 with z | z
        · exact q4 i z
        · obtain ⟨n1, n2⟩ := z.pl p q h
          rcases ha with g | g
          · exact n1 g
          · exact n2 g
      · rw [if_neg e]; exact q4 j
end
section
variable {c : Ctx} {env : En} (ok : COk c) {N G : List Str} {pos p : Pos} {κ : Kt} {a b e : Expr} {es : List Expr} {x : Str} {st : Stmt} {sts rest body : List Stmt}
theorem dss_nil (h : κ.nx env) : DSs c env [] κ := fun X _ B Z H S fp σ E D k => oSs pss_nil (k.nx env H S fp σ h E (Same.refl S))
theorem dss_cons (h : DS c env st { κ with nx := fun env' => DSs c env' rest κ }) : DSs c env (st :: rest) κ := fun X hX B Z H S fp σ E D k =>
  oSs (pss_cons pS pSs) (h X hX B Z H S fp σ E { D with nx := sSs X rest D } ⟨fun env' H' S' fp' σ' q E' s => q X hX B Z H' S' fp' σ' E' D (k.mono s), k.rt, k.rl, k.bk, k.ct⟩)
theorem dss_one (h : DS c env st κ) : DSs c env [st] κ := fun X hX B Z H S fp σ E D k => oSs (pss_one pS) (h X hX B Z H S fp σ E D k)
theorem ds_if (h : DT c env e fun k => (k = true → DSs c env sts κ) ∧ (k = false → DSs c env rest κ)) : DS c env (.If e sts rest pos) κ := fun X hX B Z H S fp σ E D k =>
  oS (ps_if pT pSs pSs) (h X hX B Z H S fp σ E _ fun q H' S' hq E' s => by
    cases q with
    | true => exact iteT (hq.1 rfl X hX B Z H' S' fp σ E' D (k.mono s))
    | false => exact iteF (hq.2 rfl X hX B Z H' S' fp σ E' D (k.mono s)))
theorem ds_ret (h : DE c env e fun w => κ.rt w env) : DS c env (.Return (some e) pos) κ := fun X hX B Z H S fp σ E D k =>
  oS (ps_ret pE) (h X hX B Z H S fp σ E _ fun w v H' S' hq E' s r => k.rt w v env H' S' fp σ hq E' s r)
theorem ds_retF (h : DF c env e fun ds => κ.rl ds env) : DS c env (.Return (some e) pos) κ := fun X hX B Z H S fp σ E D k =>
  oS (ps_ret pE) (h X hX B Z H S fp σ E _ fun ds l vs H' S' hq E' s n hl r => k.rl ds l vs env H' S' fp σ hq E' s n.s n.b n.z n.pl hl r)
theorem ds_retN (h : κ.rt (.d .none) env) : DS c env (.Return none pos) κ := fun X hX B Z H S fp σ E D k => oS ps_retN (k.rt _ _ env H S fp σ h E (Same.refl S) .non)
theorem ds_expr (h : DE c env e fun _ => κ.nx env) (he : ∀ X : Cx, PS X (.Expr e pos) (tDrop (sE X e)) := by intro X; exact ps_expr pE) : DS c env (.Expr e pos) κ := fun X hX B Z H S fp σ E D k =>
  oS (he X) (h X hX B Z H S fp σ E _ fun w v H' S' hq E' s r => k.nx env H' S' fp σ hq E' s)
theorem ds_pass (h : κ.nx env) : DS c env (.Pass pos) κ := fun X _ B Z H S fp σ E D k => oS ps_pass (k.nx env H S fp σ h E (Same.refl S))
theorem ds_cont (h : κ.ct env) : DS c env (.Continue pos) κ := fun X _ B Z H S fp σ E D k => oS ps_continue (k.ct env H S fp σ h E (Same.refl S))
/-- the list that is one's own is handed back -/
inductive LkO : List Str → En → Str → Slot → Prop
  | z {x : Str} {N : List Str} {s : Slot} {env : En} : LkO (x :: N) (some s :: env) x s
  | s {x y : Str} {N : List Str} {s : Slot} {e : Option Slot} {env : En} : LkO N env x s → LkO (y :: N) (e :: env) x s
theorem LkO.get {s : Slot} (h : LkO N env x s) : ∃ i : Nat, N[i]? = some x ∧ env[i]? = some (some s) := by
  induction h with
  | z => exact ⟨0, rfl, rfl⟩
  | s _ ih => obtain ⟨i, h1, h2⟩ := ih; exact ⟨i + 1, by simpa using h1, by simpa using h2⟩
include ok
theorem own_var {s : Slot} (hN : c.N = N) (h : LkO N env x s) {X : Cx} (hX : c.F X) {B : Hp} {Z : Addr → Prop} {H S : Hp} {fp : Nat → List Addr} {σ : L2.St} (E : ER c B Z H S fp σ env) :
    ∃ i v, env[i]? = some (some s) ∧ PE X (.Name x p) (tVar i) ∧ σ[i]? = some (some v) ∧ SRep c H S v (fp i) s := by
  obtain ⟨i, h1, h2⟩ := h.get
  obtain ⟨v, h3, h4⟩ := E.slot i _ h2
  have hn : X.N[i]? = some x := by rw [ok.N X hX, hN]; exact h1
  exact ⟨i, v, h2, pe_var (i := i) hn (ok.vis X hX x (E.vis i _ x h2 (by rw [hN]; exact h1))) (ok.dbg x (E.vis i _ x h2 (by rw [hN]; exact h1))).1 (ok.dbg x (E.vis i _ x h2 (by rw [hN]; exact h1))).2, h3, h4⟩
theorem ds_retL {ds : List PD} (hN : c.N = N) (h : LkO N env x (.l ds)) (q : κ.rl ds env) : DS c env (.Return (some (.Name x p)) pos) κ := fun X hX B Z H S fp σ E D k => by
  obtain ⟨i, v, h1, h2, h3, l, vs, rfl, h4, h5, h6⟩ := own_var ok (p := p) hN h hX E
  obtain ⟨g1, g2, g3, _⟩ := E.out i l (by rw [h6]; simp)
  refine oS (ps_ret h2) ⟨_, h3, k.rl ds l vs env H S fp σ q E (Same.refl S) g1 g2 g3 (fun x y hp => ?_) h4 h5⟩
  have g4 := (E.pool x y hp).2
  exact ⟨fun e => (g4 l (.inl e)).2.2.2 i (by rw [h6]; simp), fun e => (g4 l (.inr e)).2.2.2 i (by rw [h6]; simp)⟩
theorem COk.pvar {X : Cx} (hX : c.F X) {i : Nat} (hi : c.N[i]? = some x) (hv : c.Vi x) : PE X (.Name x p) (tVar i) := pe_var (by rw [ok.N X hX]; exact hi) (ok.vis X hX x hv) (ok.dbg x hv).1 (ok.dbg x hv).2
theorem COk.pgn {X : Cx} (hX : c.F X) {i : Nat} (hN : c.N = N) (hi : N[i]? = some x) (hl : c.Lo x) : PG X (.Name x p) (gName i) := by
  obtain ⟨l1, l2⟩ := ok.loc X hX x hl
  exact pg_name (by rw [ok.N X hX]; exact ok.nd) (by rw [ok.N X hX, hN]; exact hi) l1 l2
theorem ds_asg {p' : Pos} (hN : c.N = N) {Ls : List Str} (hm : x ∈ N) (hLo : ∀ y ∈ Ls, c.Lo y) (hl0 : x ∈ Ls) (h : DE c env e fun w => ∃ env', Up N env x (.r w) env' ∧ κ.nx env') (hs : ∀ X : Cx, swapsWith e (some (.Name x p')) pos.line X.env = pure false := by intro _; kernel_rfl) : DS c env (.Assign [.Name x p'] e pos) κ := fun X hX B Z H S fp σ E D k => by
  have hl := hLo x hl0
  obtain ⟨i, hi, hi2⟩ := List.getElem_of_mem hm
  have hi : N[i]? = some x := by rw [List.getElem?_eq_getElem hi, hi2]
  have hn : X.N[i]? = some x := by rw [ok.N X hX, hN]; exact hi
  obtain ⟨l1, l2⟩ := ok.loc X hX x hl
  refine oS (ps_set (i := i) (by rw [ok.N X hX]; exact ok.nd) hn l1 pE (hs X) l2) ?_
  refine h X hX B Z H S fp σ E _ fun w v H' S' ⟨env', u, hq⟩ E' s r => ?_
  obtain ⟨j, j1, j2, rfl⟩ := u.get
  obtain rfl : i = j := nodup_ix (by rw [← hN]; exact ok.nd) hi j1
  exact k.nx _ H' S' fp _ hq (E'.setR ok (by rw [hN]; exact j1) (ok.lov x hl) j2 r) s
/-- a new list of one's own -/
theorem ds_asgF {p' : Pos} (hN : c.N = N) {Ls : List Str} (hm : x ∈ N) (hLo : ∀ y ∈ Ls, c.Lo y) (hl0 : x ∈ Ls) (h : DF c env e fun ds => ∃ env', Up N env x (.l ds) env' ∧ κ.nx env') (hs : ∀ X : Cx, swapsWith e (some (.Name x p')) pos.line X.env = pure false := by intro _; kernel_rfl) : DS c env (.Assign [.Name x p'] e pos) κ := fun X hX B Z H S fp σ E D k => by
  have hl := hLo x hl0
  obtain ⟨i, hi, hi2⟩ := List.getElem_of_mem hm
  have hi : N[i]? = some x := by rw [List.getElem?_eq_getElem hi, hi2]
  have hn : X.N[i]? = some x := by rw [ok.N X hX, hN]; exact hi
  obtain ⟨l1, l2⟩ := ok.loc X hX x hl
  refine oS (ps_set (i := i) (by rw [ok.N X hX]; exact ok.nd) hn l1 pE (hs X) l2) ?_
  refine h X hX B Z H S fp σ E _ fun ds l vs H' S' ⟨env', u, hq⟩ E' s n hl' r => ?_
  obtain ⟨j, j1, j2, rfl⟩ := u.get
  obtain rfl : i = j := nodup_ix (by rw [← hN]; exact ok.nd) hi j1
  exact k.nx _ H' S' _ _ hq (E'.setO ok (s := .l ds) (l := [l]) (by rw [hN]; exact j1) (ok.lov x hl) j2 ⟨l, vs, rfl, hl', r, rfl⟩ fun a ha => by
    obtain rfl : a = l := by simpa using ha
    exact ⟨n, _, hl', rfl⟩) s
/-- x.append(e), x a list of one's own -/
theorem ds_app {p1 p2 p3 : Pos} {ds : List PD} (hN : c.N = N) (hx : LkO N env x (.l ds)) (h : DE c env e fun w => ∃ d, w = .d d ∧ ds.length < 1000000 ∧ ∃ env', Up N env x (.l (ds ++ [d])) env' ∧ κ.nx env')
    (hs : ∀ X : Cx, ∀ t, PE X e t → PE X (.Call (.Attribute (.Name x p1) "append" p2) [e] [] p3) (tBM X.K "list" rAppend (sE X (.Name x p1)) (tCons t tNil)) := by intro _ _ h; exact pe_bm PySem.F.plainAttrs_list PySem.F.slot_list_append PySem.F.type_list_append mt_append pE (pa_cons h pa_nil))
    (he : ∀ X : Cx, ∀ t, PE X (.Call (.Attribute (.Name x p1) "append" p2) [e] [] p3) t → PS X (.Expr (.Call (.Attribute (.Name x p1) "append" p2) [e] [] p3) pos) (tDrop t) := by intro _ _ h; exact ps_expr h) :
    DS c env (.Expr (.Call (.Attribute (.Name x p1) "append" p2) [e] [] p3) pos) κ := fun X hX B Z H S fp σ E D k => by
  refine oS (he X _ (hs X _ pE)) ?_
  obtain ⟨i, k1, k2⟩ := hx.get
  obtain ⟨v, h3, l, vs, rfl, h4, h5, h6⟩ := E.slot i _ k2
  refine oE (ok.pvar hX (p := p1) (by rw [hN]; exact k1) (E.vis i _ x k2 (by rw [hN]; exact k1))) ⟨_, h3, ?_⟩
  refine ⟨.inl ⟨rfl, _, Or.inl (Or.inl h4)⟩, ?_⟩
  refine h X hX B Z H S fp σ E _ fun w y H1 S1 ⟨d, e1, hz, env', u, hq⟩ E1 s1 r1 => ?_
  subst e1
  obtain ⟨j, j1, j2, rfl⟩ := u.get
  obtain rfl : i = j := nodup_ix (by rw [← hN]; exact ok.nd) k1 j1
  obtain ⟨v2, g3, l2, vs2, g7, g4, g5, g6⟩ := E1.slot i _ k2
  rw [h3] at g3; cases g3; cases g7
  refine ⟨l, vs2, y, rfl, rfl, g4, Nat.lt_of_lt_of_le (by rw [g5.length]; exact hz) (by decide), ?_⟩
  have hl : S1 l = none := (E1.out i l (by rw [g6]; simp)).1
  refine k.nx _ _ S1 _ _ hq (E1.chg (l' := [l]) h3 ⟨_, k2⟩ (Same.refl S1) (fun a o ea => ?_) (fun a o ea ha => ?_) (fun a ha => ?_) (fun a o ea hn => by rw [hn] at ea; cases ea) ⟨l, _, rfl, upd_same, g5.snoc r1, rfl⟩) s1
  · have hne : a ≠ l := fun z => by rw [z, hl] at ea; cases ea
    rw [upd_ne hne]; exact E1.sub a o ea
  · have hne : a ≠ l := fun z => ha (by rw [g6, z]; simp)
    rw [upd_ne hne]; exact ea
  · obtain rfl : a = l := by simpa using ha
    exact ⟨.inl (by rw [g6]; simp), hl, _, upd_same, rfl⟩
end
/-! ## 12. Targets, loops -/
/-- targets that take the items of a tuple -/
inductive UpL : List Str → En → List Str → List PD → En → Prop
  | nil {N : List Str} {env : En} : UpL N env [] [] env
  | cons {N : List Str} {env e1 e2 : En} {x : Str} {xs : List Str} {d : PD} {ds : List PD} : Up N env x (.r (.d d)) e1 → UpL N e1 xs ds e2 → UpL N env (x :: xs) (d :: ds) e2
def names : List Expr → Option (List Str)
  | [] => some []
  | .Name x _ :: es => (names es).map (x :: ·)
  | _ => none
def sG (X : Cx) (tg : Expr) : TG := fun v σ H Q => ∀ u pins s, Inv X pins σ H s → RelV v u → wpAny (model X.prog X.w) X.A (assign tg X.env u) (fun _ s' => ∃ σ' H', Inv X pins σ' H' s' ∧ Q σ' H') X.xe s
def sGs (X : Cx) (ts : List Expr) : TGs := fun vs σ H Q => ∀ us pins s, Inv X pins σ H s → Vals vs us → wpAny (model X.prog X.w) X.A (assignInOrder ((assignEach ts X.env).map (·.2)) us) (fun _ s' => ∃ σ' H', Inv X pins σ' H' s' ∧ Q σ' H') X.xe s
theorem pG {X : Cx} {tg : Expr} : PG X tg (sG X tg) := ⟨fun pins s _ _ _ u _ I r h => h u pins s I r⟩
theorem pGs {X : Cx} {ts : List Expr} : PGs X ts (sGs X ts) := ⟨fun pins s _ _ _ us _ I r h => h us pins s I r⟩
mutual
def tnam : Expr → List Str
  | .Name x _ => [x]
  | .Tuple es _ _ => tnams es
  | _ => []
def tnams : List Expr → List Str
  | [] => []
  | e :: es => tnam e ++ tnams es
end
/-- nothing but the names xs has changed -/
def Only (N xs : List Str) (σ σ' : L2.St) : Prop := σ'.length = σ.length ∧ ∀ j : Nat, (∀ x, N[j]? = some x → x ∉ xs) → σ'[j]? = σ[j]?
theorem Only.refl {N xs : List Str} {σ : L2.St} : Only N xs σ σ := ⟨rfl, fun _ _ => rfl⟩
theorem Only.trans {N xs ys : List Str} {σ σ1 σ2 : L2.St} (h : Only N xs σ σ1) (g : Only N ys σ1 σ2) : Only N (xs ++ ys) σ σ2 :=
  ⟨g.1.trans h.1, fun j hj => (g.2 j fun x e m => hj x e (List.mem_append_right _ m)).trans (h.2 j fun x e m => hj x e (List.mem_append_left _ m))⟩
/-- a target takes a value -/
def DG (c : Ctx) (env : En) (tg : Expr) (d : PD) (P : En → Prop) : Prop :=
  ∀ X, c.F X → ∀ B Z H S fp σ v, ER c B Z H S fp σ env → Dt S v d → ∀ Q : L2.St → Hp → Prop, (∀ env' σ', P env' → ER c B Z H S fp σ' env' → Only c.N (tnam tg) σ σ' → Q σ' H) → sG X tg v σ H Q
def DGs (c : Ctx) (env : En) (ts : List Expr) (ds : List PD) (P : En → Prop) : Prop :=
  ∀ X, c.F X → ∀ B Z H S fp σ vs, ER c B Z H S fp σ env → DtAll S vs ds → ∀ Q : L2.St → Hp → Prop, (∀ env' σ', P env' → ER c B Z H S fp σ' env' → Only c.N (tnams ts) σ σ' → Q σ' H) → sGs X ts vs σ H Q
section
variable {c : Ctx} {env : En} (ok : COk c) {N G : List Str} {pos p : Pos} {κ : Kt} {a b e : Expr} {es : List Expr} {x : Str} {st : Stmt} {sts rest body : List Stmt} {P : En → Prop} {d : PD} {ds : List PD}
include ok
theorem dg_name (hN : c.N = N) {Ls : List Str} (hLo : ∀ y ∈ Ls, c.Lo y) (hl0 : x ∈ Ls) (h : ∃ env', Up N env x (.r (.d d)) env' ∧ P env') : DG c env (.Name x p) d P := fun X hX B Z H S fp σ v E r Q q => by
  have hl := hLo x hl0
  obtain ⟨env', u, hP⟩ := h
  obtain ⟨j, j1, j2, rfl⟩ := u.get
  refine fun u pins s I ru => (ok.pgn hX (i := j) hN j1 hl).run pins s σ H v u Q I ru ?_
  refine q _ _ hP (E.setR ok (by rw [hN]; exact j1) (ok.lov x hl) j2 (w := .d d) r) ⟨by simp, fun k hk => List.getElem?_set_ne fun e => ?_⟩
  subst e
  exact hk x (by rw [hN]; exact j1) (by simp [tnam])
theorem dgs_nil (h : P env) : DGs c env [] [] P := fun X hX B Z H S fp σ vs E r Q q => by
  cases r
  exact fun us pins s I ru => pgs_nil.run pins s σ H [] us Q I ru ⟨rfl, q _ _ h E Only.refl⟩
omit ok
theorem dgs_cons (h : DG c env e d fun env' => DGs c env' es ds P) (hs : ∀ X : Cx, (assignEach (e :: es) X.env).map (·.2) = assign e X.env :: (assignEach es X.env).map (·.2) := by intro _; kernel_rfl) : DGs c env (e :: es) (d :: ds) P := fun X hX B Z H S fp σ vs E r Q q => by
  cases r with
  | cons r1 r2 =>
    refine fun us pins s I ru => (pgs_cons pG pGs (hs X)).run pins s σ H _ us Q I ru ⟨_, _, rfl, ?_⟩
    refine h X hX B Z H S fp σ _ E r1 _ fun env' σ' hP E' o1 => ?_
    exact hP X hX B Z H S fp σ' _ E' r2 Q fun env2 σ2 hP2 E2 o2 => q env2 σ2 hP2 E2 (o1.trans o2)
include ok
theorem dg_tup {j : Nat} (h : DGs c env es ds P) (hz : ds.length = es.length) (hn : ∀ X : Cx, (assignEach es X.env).length = es.length := by intro _; kernel_rfl) (hst : ∀ X : Cx, (assignEach es X.env).findIdx? (·.1) = none := by intro _; kernel_rfl) : DG c env (.Tuple es j p) (.tuple ds) P := fun X hX B Z H S fp σ v E r Q q => by
  obtain ⟨l, xs, rfl, e1, e2⟩ := Dt.tup_inv r
  refine fun u pins s I ru => (pg_tup (ok.calm X hX) pGs (hn X) (hst X)).run pins s σ H _ u Q I ru ⟨l, xs, rfl, Or.inl (Or.inl (E.sub _ _ e1)), by rw [e2.length, hz], ?_⟩
  exact h X hX B Z H S fp σ xs E e2 Q q
omit ok
/-- a, b = e -/
theorem ds_asgG {tg : Expr} (h : DE c env e fun w => ∃ d, w = .d d ∧ DG c env tg d κ.nx) (hs : ∀ X : Cx, swapsWithSole [tg] e pos.line X.env = pure false := by intro _; kernel_rfl) (hw : ∀ X : Cx, swappedStores [tg] e X.env = pure none := by intro _; kernel_rfl) (h1 : ∀ X : Cx, (assignEach [tg] X.env).map (·.2) = [assign tg X.env] := by intro _; kernel_rfl) : DS c env (.Assign [tg] e pos) κ := fun X hX B Z H S fp σ E D k =>
  oS (ps_asg pE pG (hs X) (hw X) (h1 := h1 X)) (h X hX B Z H S fp σ E _ fun w v H' S' ⟨d, e1, hG⟩ E' s r => by
    subst e1
    exact hG X hX B Z H' S' fp σ v E' r _ fun env' σ' hP E2 _ => k.nx env' H' S' fp σ' hP E2 s)
/-- what a loop over items asks -/
def Loop (c : Ctx) (env : En) (tg : Expr) (body : List Stmt) (κ : Kt) (ds : List PD) : Prop :=
  ∃ Inv : List PD → En → Prop, Inv ds env ∧ (∀ d rest env1, (∃ pre, ds = pre ++ d :: rest) → Inv (d :: rest) env1 → DG c env1 tg d fun env2 => DSs c env2 body ⟨Inv rest, κ.rt, κ.rl, κ.nx, Inv rest⟩) ∧ ∀ env1, Inv [] env1 → κ.nx env1
theorem KOk.loop {B : Hp} {Z : Addr → Prop} {S : Hp} {D : Ends} {I : En → Prop} (k : KOk c B Z S κ D) {Nx : L2.St → Hp → Prop} (h : ∀ env' H' S' fp σ, I env' → ER c B Z H' S' fp σ env' → Same S S' → Nx σ H') :
    KOk c B Z S ⟨I, κ.rt, κ.rl, κ.nx, I⟩ { D with nx := Nx, ct := Nx, bk := D.nx } := ⟨h, k.rt, k.rl, k.nx, h⟩
include ok
theorem ds_forL {iter tg : Expr} (h : DE c env iter fun w => ∃ ds, w = .d (.list ds) ∧ Loop c env tg body κ ds) (hs : ∀ (X : Cx) x, foldedSetIterable iter X.env x = pure x := by intro _ _; kernel_rfl) : DS c env (.For tg iter body [] pos) κ := fun X hX B Z H S fp σ E D k => by
  refine oS (ps_for (ok.own X hX) (ok.calm X hX) (pi_list pE) pG pSs (hs X)) ?_
  refine h X hX B Z H S fp σ E _ fun w v H1 S1 ⟨ds, e1, J, j0, js, jd⟩ E1 s1 r1 => ?_
  subst e1
  obtain ⟨l, xs, rfl, e2, e3⟩ := Dt.list_inv (S := S1) r1
  have k1 := k.mono s1
  refine ⟨l, rfl, ⟨xs, Or.inl (Or.inl (E1.sub _ _ e2))⟩, ?_⟩
  refine for_list (K := X.K) (a := l) (xs := xs) (fun i σ' H' => ∃ env' S' fp', J (ds.drop i) env' ∧ ER c B Z H' S' fp' σ' env' ∧ Same S1 S') ⟨env, S1, fp, j0, E1, Same.refl _⟩ (fun i σ' H' _ ⟨env', S', fp', _, E', s'⟩ => Or.inl (Or.inl (E'.sub _ _ (s' _ _ e2)))) ?_ ?_
  · rintro i y σ' H' hi ⟨env', S', fp', hJ, E', s'⟩
    obtain ⟨d, hd, hr⟩ := e3.get' hi
    have hlt : i < ds.length := (List.getElem?_eq_some_iff.mp hd).1
    have hdr : ds.drop i = d :: ds.drop (i + 1) := by
      rw [List.drop_eq_getElem_cons hlt]
      rw [List.getElem?_eq_getElem hlt] at hd
      cases hd
      rfl
    rw [hdr] at hJ
    refine js d (ds.drop (i + 1)) env' ⟨ds.take i, by rw [← hdr, List.take_append_drop]⟩ hJ X hX B Z H' S' fp' σ' y E' (Dt.mono s' _ _ hr) _ fun env2 σ2 hb E2 _ => ?_
    exact hb X hX B Z H' S' fp' σ2 E2 _ ((k1.mono s').loop fun env3 H3 S3 fp3 σ3 hJ3 E3 s3 => ⟨env3, S3, fp3, hJ3, E3, s'.trans s3⟩)
  · rintro σ' H' ⟨env', S', fp', hJ, E', s'⟩
    rw [e3.length, List.drop_length] at hJ
    exact k1.nx env' H' S' fp' σ' (jd env' hJ) E' s'
theorem ds_forT {iter tg : Expr} (h : DE c env iter fun w => ∃ ds, w = .d (.tuple ds) ∧ Loop c env tg body κ ds) (hs : ∀ (X : Cx) x, foldedSetIterable iter X.env x = pure x := by intro _ _; kernel_rfl) : DS c env (.For tg iter body [] pos) κ := fun X hX B Z H S fp σ E D k => by
  refine oS (ps_for (ok.own X hX) (ok.calm X hX) (pi_tup pE) pG pSs (hs X)) ?_
  refine h X hX B Z H S fp σ E _ fun w v H1 S1 ⟨ds, e1, J, j0, js, jd⟩ E1 s1 r1 => ?_
  subst e1
  obtain ⟨l, xs, rfl, e2, e3⟩ := Dt.tup_inv (S := S1) r1
  have k1 := k.mono s1
  refine ⟨l, rfl, ⟨xs, Or.inl (Or.inl (E1.sub _ _ e2))⟩, ?_⟩
  refine for_tup (K := X.K) (a := l) (xs := xs) (fun i σ' H' => ∃ env' S' fp', J (ds.drop i) env' ∧ ER c B Z H' S' fp' σ' env' ∧ Same S1 S') ⟨env, S1, fp, j0, E1, Same.refl _⟩ (fun i σ' H' _ ⟨env', S', fp', _, E', s'⟩ => Or.inl (Or.inl (E'.sub _ _ (s' _ _ e2)))) ?_ ?_
  · rintro i y σ' H' hi ⟨env', S', fp', hJ, E', s'⟩
    obtain ⟨d, hd, hr⟩ := e3.get' hi
    have hlt : i < ds.length := (List.getElem?_eq_some_iff.mp hd).1
    have hdr : ds.drop i = d :: ds.drop (i + 1) := by
      rw [List.drop_eq_getElem_cons hlt]
      rw [List.getElem?_eq_getElem hlt] at hd
      cases hd
      rfl
    rw [hdr] at hJ
    refine js d (ds.drop (i + 1)) env' ⟨ds.take i, by rw [← hdr, List.take_append_drop]⟩ hJ X hX B Z H' S' fp' σ' y E' (Dt.mono s' _ _ hr) _ fun env2 σ2 hb E2 _ => ?_
    exact hb X hX B Z H' S' fp' σ2 E2 _ ((k1.mono s').loop fun env3 H3 S3 fp3 σ3 hJ3 E3 s3 => ⟨env3, S3, fp3, hJ3, E3, s'.trans s3⟩)
  · rintro σ' H' ⟨env', S', fp', hJ, E', s'⟩
    rw [e3.length, List.drop_length] at hJ
    exact k1.nx env' H' S' fp' σ' (jd env' hJ) E' s'
/-- for x in range(e) -/
theorem ds_forR {e tg : Expr} {p0 : Pos} (bi : BiOk c.mg) (hG : c.G = G) (hg : ("range" : Str) ∈ G)
    (h : DE c env e fun w => ∃ n : Int, w = .d (.int n) ∧ n < 2 ^ 62 ∧ -(2 ^ 62) ≤ n ∧ ∃ J : Nat → En → Prop, J 0 env ∧ (∀ (i : Nat) env1, (i : Int) < n → J i env1 → DG c env1 tg (.int i) fun env2 => DSs c env2 body ⟨J (i + 1), κ.rt, κ.rl, κ.nx, J (i + 1)⟩) ∧ ∀ env1, J n.toNat env1 → κ.nx env1)
    (hs : ∀ (X : Cx) x, foldedSetIterable (.Call (.Name "range" p0) [e] [] p) X.env x = pure x := by intro _ _; kernel_rfl) (he : ∀ X : Cx, starEach [e] X.env = [(false, eval e X.env)] := by intro _; kernel_rfl) (he2 : ∀ X : Cx, starEach (e :: []) X.env = (false, eval e X.env) :: starEach [] X.env := by intro _; kernel_rfl) :
    DS c env (.For tg (.Call (.Name "range" p0) [e] [] p) body [] pos) κ := fun X hX B Z H S fp σ E D k => by
  refine oS (ps_for (ok.own X hX) (ok.calm X hX) (pi_range1 (ok.gl X hX _ (hG ▸ hg)) (ok.mgn hX bi.range) (pa_cons pE pa_nil (he2 X)) (he X)) pG pSs (hs X)) ?_
  refine h X hX B Z H S fp σ E _ fun w v H1 S1 ⟨n, e1, n1, n2, J, j0, js, jd⟩ E1 s1 r1 => ?_
  subst e1
  have k1 := k.mono s1
  refine ⟨n, by rw [Dt.int_inv (S := S1) r1], n2, n1, ?_⟩
  refine for_range (lo := 0) (n := n.toNat) (fun i σ' H' => ∃ env' S' fp', J i env' ∧ ER c B Z H' S' fp' σ' env' ∧ Same S1 S') ⟨env, S1, fp, j0, E1, Same.refl _⟩ ?_ ?_
  · rintro i σ' H' hi ⟨env', S', fp', hJ, E', s'⟩
    rw [Int.zero_add]
    refine js i env' (by omega) hJ X hX B Z H' S' fp' σ' _ E' (.int _) _ fun env2 σ2 hb E2 _ => ?_
    exact hb X hX B Z H' S' fp' σ2 E2 _ ((k1.mono s').loop fun env3 H3 S3 fp3 σ3 hJ3 E3 s3 => ⟨env3, S3, fp3, hJ3, E3, s'.trans s3⟩)
  · rintro σ' H' ⟨env', S', fp', hJ, E', s'⟩
    exact k1.nx env' H' S' fp' σ' (jd env' hJ) E' s'
/-- while -/
theorem ds_while (J : En → Prop) (μ : En → Nat) (j0 : J env) (h : ∀ env1, J env1 → DT c env1 e fun k => (k = true → DSs c env1 body ⟨fun e2 => J e2 ∧ μ e2 < μ env1, κ.rt, κ.rl, κ.nx, fun e2 => J e2 ∧ μ e2 < μ env1⟩) ∧ (k = false → κ.nx env1)) : DS c env (.While e body [] pos) κ := fun X hX B Z H S fp σ E D k => by
  refine oS (ps_while (ok.own X hX) pT pSs) ?_
  refine ⟨fun m σ' H' => ∃ env' S' fp', m = μ env' ∧ J env' ∧ ER c B Z H' S' fp' σ' env' ∧ Same S S', ⟨_, env, S, fp, rfl, j0, E, Same.refl _⟩, ?_⟩
  rintro m σ' H' ⟨env', S', fp', rfl, hJ, E', s'⟩
  refine h env' hJ X hX B Z H' S' fp' σ' E' _ fun q H2 S2 hq E2 s2 => ?_
  have s3 := s'.trans s2
  cases q with
  | true =>
    refine iteT ⟨fun σ3 H3 => ∃ env3 S3 fp3, (J env3 ∧ μ env3 < μ env') ∧ ER c B Z H3 S3 fp3 σ3 env3 ∧ Same S S3, fun σ3 H3 ⟨env3, S3, fp3, h1, h2, h3⟩ => ⟨_, h1.2, env3, S3, fp3, rfl, h1.1, h2, h3⟩, ?_⟩
    exact hq.1 rfl X hX B Z H2 S2 fp' σ' E2 _ ((k.mono s3).loop fun env3 H3 S3 fp3 σ3 hJ3 E3 s4 => ⟨env3, S3, fp3, hJ3, E3, s3.trans s4⟩)
  | false => exact iteF ((k.mono s3).nx env' H2 S2 fp' σ' (hq.2 rfl) E2 (Same.refl _))
end
/-! ## 13. A def, from its entry -/
def noneL : Nat → En
  | 0 => []
  | n + 1 => none :: noneL n
def envO : List W → Nat → En
  | [], n => noneL n
  | w :: ws, n => some (.r w) :: envO ws n
theorem noneL_get : ∀ (n i : Nat) (s : Slot), (noneL n)[i]? ≠ some (some s)
  | 0, i, s, h => by simp [noneL] at h
  | n + 1, 0, s, h => by simp [noneL] at h
  | n + 1, i + 1, s, h => noneL_get n i s (by simpa [noneL] using h)
theorem noneL_len : ∀ n : Nat, (noneL n).length = n
  | 0 => rfl
  | n + 1 => by simp [noneL, noneL_len n]
theorem envO_len : ∀ (ws : List W) (n : Nat), (envO ws n).length = ws.length + n
  | [], n => by simp [envO, noneL_len]
  | w :: ws, n => by simp [envO, envO_len ws n]; omega
theorem envO_get {C : Addr} {S : Hp} : ∀ {vs : List V} {ws : List W} (n : Nat), Reps C S vs ws → ∀ (i : Nat) s, (envO ws n)[i]? = some (some s) → i < ws.length ∧ ∃ v w, s = .r w ∧ vs[i]? = some v ∧ Rep C S v w
  | _, _, n, .nil, i, s, h => absurd h (noneL_get n i s)
  | v :: _, w :: _, n, .cons h1 h2, 0, s, h => by
    simp [envO] at h
    subst h
    exact ⟨by simp, v, w, rfl, rfl, h1⟩
  | v :: _, w :: _, n, .cons h1 h2, i + 1, s, h => by
    obtain ⟨h3, v', w', h4, h5, h6⟩ := envO_get n h2 i s (by simpa [envO] using h)
    exact ⟨by simpa using h3, v', w', h4, by simpa using h5, h6⟩
theorem start_get {N : List Str} {vs : List V} {i : Nat} {v : V} (h : vs[i]? = some v) : (L2.start N vs)[i]? = some (some v) := by
  have hi : i < vs.length := (List.getElem?_eq_some_iff.mp h).1
  unfold L2.start
  rw [List.getElem?_append_left (by simpa using hi), List.getElem?_map, h]
  rfl
theorem start_len {N : List Str} {vs : List V} (h : vs.length ≤ N.length) : (L2.start N vs).length = N.length := by
  unfold L2.start
  rw [List.length_append, List.length_map, List.length_replicate]
  omega
/-- what a body may know of its frame -/
structure CIs (c : Ctx) (P : Program) (w : World) (K : PySem.W.Frag) (mg : Str → Option Value) (base : Heap) (k : Nat) (N Ls G : List Str) (C : Addr) (pl : Option (Addr × Addr)) (sc : Scope) : Prop where
  ok : COk c
  sc : ∀ X, c.F X → X.env.scope = sc
  P : c.P = P
  w : c.w = w
  K : c.K = K
  mg : c.mg = mg
  base : c.base = base
  k : c.k = k
  N : c.N = N
  G : c.G = G
  C : c.C = C
  Lo : ∀ x ∈ Ls, c.Lo x
  pl : c.pl = pl
section
variable {c : Ctx} {P : Program} {w : World} {K : PySem.W.Frag} {mg : Str → Option Value} {base : Heap} {k : Nat} {N Ls G : List Str} {C : Addr} {pl : Option (Addr × Addr)} {sc : Scope} (I : CIs c P w K mg base k N Ls G C pl sc) {x : Str} {α : Type} {ar : α → List W} {po : α → W → Prop} {pf : α → List PD → Prop}
include I
theorem CIs.fn {j : Nat} {sp : Addr → Sp} (F : FnG P w K mg base x j (sp C)) (h : j ≤ k := by decide) : Fn c x (sp c.C) := by
  obtain ⟨_, _, e1, e2, e3, e4, e5, e6, _, _, e7, _, _⟩ := I
  exact ⟨j, by rw [e6]; exact h, by rw [e1, e2, e3, e4, e5, e7]; exact F⟩
theorem CIs.me {j : Nat} {sp : Addr → Sp} (F : MeG P w K mg base C x j (sp C)) (h : j ≤ k := by decide) : Me c x (sp c.C) := by
  obtain ⟨_, _, e1, e2, e3, e4, e5, e6, _, _, e7, _, _⟩ := I
  exact ⟨j, by rw [e6]; exact h, by rw [e1, e2, e3, e4, e5, e7]; exact F⟩
theorem CIs.bi (h : BiOk mg) : BiOk c.mg := by rw [I.mg]; exact h
theorem CIs.ld (h : LdOk K C) : LdOk c.K c.C := by rw [I.K, I.C]; exact h
end
/-- the frame of a body -/
def ctxOf (X : Cx) (k : Nat) (N Ls G : List Str) (C : Addr) (pl : Option (Addr × Addr)) : Ctx :=
  ⟨fun Y => Y = X, X.prog, X.w, X.K, X.mg, X.base, k, N, fun x => x ∈ Ls, fun x => x ∈ Ls, G, C, pl⟩
def locB (sc : Scope) (x : Str) : Bool := !(x == ("__debug__" : Str)) && !(x == ("__classdict__" : Str)) && match sc.names.lookup x with
  | some .local => true
  | some .cell => true
  | _ => false
def gloB (sc : Scope) (x : Str) : Bool := !(x == ("__debug__" : Str)) && !(decide (x = ("__name__" : Str))) && match sc.names.lookup x with
  | some .globalImplicit => true
  | _ => false
theorem locB_ok {sc : Scope} {x : Str} (h : locB sc x = true) : sc.names.lookup x = some .local ∨ sc.names.lookup x = some .cell := by
  unfold locB at h
  replace h := (Bool.and_eq_true_iff.mp h).2
  split at h
  · exact .inl (by assumption)
  · exact .inr (by assumption)
  · cases h
theorem locB_dbg {sc : Scope} {x : Str} (h : locB sc x = true) : (x == ("__debug__" : Str)) = false ∧ (x == ("__classdict__" : Str)) = false := by
  unfold locB at h
  have h2 := Bool.and_eq_true_iff.mp (Bool.and_eq_true_iff.mp h).1
  exact ⟨by simpa using h2.1, by simpa using h2.2⟩
theorem gloB_dbg {sc : Scope} {x : Str} (h : gloB sc x = true) : (x == ("__debug__" : Str)) = false ∧ x ≠ "__name__" := by
  unfold gloB at h
  have h2 := Bool.and_eq_true_iff.mp (Bool.and_eq_true_iff.mp h).1
  exact ⟨by simpa using h2.1, by simpa using h2.2⟩
theorem gloB_ok {sc : Scope} {x : Str} (h : gloB sc x = true) : sc.names.lookup x = some .globalImplicit := by
  unfold gloB at h
  replace h := (Bool.and_eq_true_iff.mp h).2
  split at h
  · assumption
  · cases h
section
variable {P : Program} {w : World} {K : PySem.W.Frag} {mg : Str → Option Value} {base : Heap} {x qual : Str} {st : Stmt} {f : Addr} {fd : FuncData} {N ps Ls G : List Str} {k : Nat} {C : Addr}
theorem ctx_is {CX : CXT} {cdv : Value} {A : Around} {outer : List Env} {s : Shared} {H : Hp} {E : XK} (S : FnScope N ps (defScope st)) (hL : (Ls.all (locB (defScope st))) = true) (hG : (G.all (gloB (defScope st))) = true) (pl : Option (Addr × Addr))
    (hr : Room k (A.deeper (envOfC qual (defScope st) s.heap.objs.size f cdv))) :
    CIs (ctxOf (cxOf CX P w K mg base N qual (defScope st) f cdv A outer s H E).nox k N Ls G C pl) P w K mg base k N Ls G C pl (defScope st) where
  sc := fun X h => by subst h; rfl
  ok := {
    N := fun X h => by subst h; rfl
    nd := S.nd
    eqs := fun X h => by subst h; exact ⟨rfl, rfl, rfl, rfl, rfl⟩
    vis := fun X h y hy => by
      subst h
      rcases locB_ok (List.all_eq_true.mp hL y hy) with z | z
      · exact .inl z
      · exact .inr (.inl z)
    gl := fun X h y hy => by
      subst h
      exact gloB_ok (List.all_eq_true.mp hG y hy)
    calm := fun X h => by subst h; rfl
    room := fun X h => by subst h; exact hr
    loc := fun X h y hy => by
      subst h
      exact ⟨locB_ok (List.all_eq_true.mp hL y hy), .inl rfl⟩
    lov := fun _ h => h
    dbg := fun y hy => locB_dbg (List.all_eq_true.mp hL y hy)
    dbgG := fun y hy => gloB_dbg (List.all_eq_true.mp hG y hy)
    own := fun X h => by subst h; exact PassesOwn.never }
  P := rfl
  w := rfl
  K := rfl
  mg := rfl
  base := rfl
  k := rfl
  N := rfl
  G := rfl
  C := rfl
  Lo := fun _ h => h
  pl := rfl
theorem vis_at {N ps Ls : List Str} (h : N.take ps.length = ps) (hp : (ps.all fun y => decide (y ∈ Ls)) = true) {i : Nat} {y : Str} (hi : i < ps.length) (e : N[i]? = some y) : y ∈ Ls := by
  have e2 : ps[i]? = some y := by rw [← h, List.getElem?_take_of_lt hi]; exact e
  exact of_decide_eq_true (List.all_eq_true.mp hp y (List.mem_of_getElem? e2))
/-- what a function object at f keeps -/
def FnX (P : Program) (w : World) (K : PySem.W.Frag) (mg : Str → Option Value) (base : Heap) (k : Nat) (sp : Sp) (f : Addr) : Prop := ∃ fd ps, FnOk P w K mg base CX0 k f fd ps sp ∧ Binds K fd ps []
theorem FnX.g {sp : Sp} (h : FnX P w K mg base k sp f) (hm : mg x = some (.ref f)) (hk : PySem.W.keepIn K (.ref f) = true) : FnG P w K mg base x k sp := by
  obtain ⟨fd, ps, h1, h2⟩ := h
  exact ⟨f, fd, ps, h1, hm, hk, h2⟩
theorem FnX.m {sp : Sp} {m : Str} (h : FnX P w K mg base k sp f) (hm : Meth K C m f) : MeG P w K mg base C m k sp := by
  obtain ⟨fd, ps, h1, h2⟩ := h
  exact ⟨f, fd, ps, h1, hm, h2⟩
/-- a def that hands back something that stands -/
theorem fx_D {α : Type} {ar : α → List W} {po : α → W → Prop} (F : FunD K x qual (defArgs st) (defBody st) (defScope st) [] [] f fd) (S : FnScope N ps (defScope st)) (hL : (Ls.all (locB (defScope st))) = true) (hG : (G.all (gloB (defScope st))) = true)
    (hp : (ps.all fun y => decide (y ∈ Ls)) = true) (n : Nat) (hn : ps.length + n = N.length) (har : ∀ z, (ar z).length = ps.length)
    (hb : ∀ (kV doc pm : Value) (an : Option Addr) (cdv ct : Value) (us : List Value), us.length = ps.length → bindArgs (PySem.W.fnOf x qual (defArgs st) (defBody st) (defScope st) .none kV doc pm an cdv ct) ⟨us, []⟩ = pure (ps.zip us))
    (body : ∀ c, CIs c P w K mg base k N Ls G C none (defScope st) → ∀ z, DSs c (envO (ar z) n) (defBody st) ⟨fun _ => po z (.d .none), fun r _ => po z r, fun ds _ => po z (.d (.list ds)), fun _ => False, fun _ => False⟩) :
    FnX P w K mg base (k + 1) (SpD C ar po) f := by
  refine ⟨fd, ps, F.ok S (fun vs H Q E h => ?_) (fun cdv A outer s H vs Q E hr h => ?_), F.bindsN hb⟩
  · obtain ⟨z, R, _, r, _⟩ := h
    rw [Paired.length r, har z]
  · obtain ⟨z, R, s0, r, q⟩ := h
    have hv : vs.length = ps.length := by rw [Paired.length r, har z]
    have I := ctx_is (CX := CX0) (P := P) (w := w) (K := K) (mg := mg) (base := base) (C := C) (cdv := cdv) (outer := outer) (H := H) (E := E) S hL hG none hr
    refine ⟨_, PSs.nox pSs, body _ I z _ rfl H (fun a => H a ≠ none ∧ R a = none) H R (fun _ => []) (L2.start N vs) ?_ _ ?_⟩
    · refine ⟨?_, s0, Same.refl H, fun a za o e => (by rw [za.2] at e; cases e), fun a za => za.1, fun i t e => ?_, fun i a h => (by simp at h), fun i j a h => (by simp at h), fun i t y e h => ?_, fun p q h => (by cases h)⟩
      · rw [start_len (by omega), envO_len, har z, hn]
      · obtain ⟨_, v, u, rfl, h2, h3⟩ := envO_get n r i t e
        exact ⟨v, start_get h2, h3⟩
      · obtain ⟨h1, _⟩ := envO_get n r i t e
        exact vis_at S.pre hp (by rw [har z] at h1; exact h1) h
    · have new : ∀ {S' : Hp} {H' : Hp} {fp : Nat → List Addr} {σ : L2.St} {env : En}, ER (ctxOf (cxOf CX0 P w K mg base N qual (defScope st) f cdv A outer s H E).nox k N Ls G C none) H (fun a => H a ≠ none ∧ R a = none) H' S' fp σ env → Same R S' → Out H R H' S' := fun {S' H' fp σ env} E' s' =>
        ⟨s', E'.sub, fun a o e h => by
          by_cases hh : H a = none
          · exact .inl hh
          · exact .inr (E'.forb a ⟨hh, h⟩ o e)⟩
      refine ⟨fun env H' S' fp σ hq E' s' => q _ _ _ _ hq E'.prot (new E' s') .non, fun u v env H' S' fp σ hq E' s' ru => q _ _ _ _ hq E'.prot (new E' s') ru, fun ds p vs' env H' S' fp σ hq E' s' n1 n2 n3 _ hl hd => ?_, fun _ _ _ _ _ h => h.elim, fun _ _ _ _ _ h => h.elim⟩
      have s1 : Same S' (upd S' p (.lst vs')) := same_upd n1
      refine q _ _ H' (upd S' p (.lst vs')) hq E'.prot ⟨s'.trans s1, fun a o e => ?_, fun a o e h => ?_⟩ (.lst upd_same (DtAll.mono s1 _ _ hd))
      · by_cases hh : a = p
        · subst hh; rw [upd_same] at e; cases e; exact hl
        · rw [upd_ne hh] at e; exact E'.sub a o e
      · by_cases hh : a = p
        · subst hh; exact .inl n2
        · rw [upd_ne hh] at e; exact (new E' s').new a o e h
/-- a def that hands back a new list -/
theorem fx_F {α : Type} {ar : α → List W} {po : α → List PD → Prop} (F : FunD K x qual (defArgs st) (defBody st) (defScope st) [] [] f fd) (S : FnScope N ps (defScope st)) (hL : (Ls.all (locB (defScope st))) = true) (hG : (G.all (gloB (defScope st))) = true)
    (hp : (ps.all fun y => decide (y ∈ Ls)) = true) (n : Nat) (hn : ps.length + n = N.length) (har : ∀ z, (ar z).length = ps.length)
    (hb : ∀ (kV doc pm : Value) (an : Option Addr) (cdv ct : Value) (us : List Value), us.length = ps.length → bindArgs (PySem.W.fnOf x qual (defArgs st) (defBody st) (defScope st) .none kV doc pm an cdv ct) ⟨us, []⟩ = pure (ps.zip us))
    (body : ∀ c, CIs c P w K mg base k N Ls G C none (defScope st) → ∀ z, DSs c (envO (ar z) n) (defBody st) ⟨fun _ => False, fun _ _ => False, fun ds _ => po z ds, fun _ => False, fun _ => False⟩) :
    FnX P w K mg base (k + 1) (SpF C ar po) f := by
  refine ⟨fd, ps, F.ok S (fun vs H Q E h => ?_) (fun cdv A outer s H vs Q E hr h => ?_), F.bindsN hb⟩
  · obtain ⟨z, R, _, r, _⟩ := h
    rw [Paired.length r, har z]
  · obtain ⟨z, R, s0, r, q⟩ := h
    have hv : vs.length = ps.length := by rw [Paired.length r, har z]
    have I := ctx_is (CX := CX0) (P := P) (w := w) (K := K) (mg := mg) (base := base) (C := C) (cdv := cdv) (outer := outer) (H := H) (E := E) S hL hG none hr
    refine ⟨_, PSs.nox pSs, body _ I z _ rfl H (fun a => H a ≠ none ∧ R a = none) H R (fun _ => []) (L2.start N vs) ?_ _ ?_⟩
    · refine ⟨?_, s0, Same.refl H, fun a za o e => (by rw [za.2] at e; cases e), fun a za => za.1, fun i t e => ?_, fun i a h => (by simp at h), fun i j a h => (by simp at h), fun i t y e h => ?_, fun p q h => (by cases h)⟩
      · rw [start_len (by omega), envO_len, har z, hn]
      · obtain ⟨_, v, u, rfl, h2, h3⟩ := envO_get n r i t e
        exact ⟨v, start_get h2, h3⟩
      · obtain ⟨h1, _⟩ := envO_get n r i t e
        exact vis_at S.pre hp (by rw [har z] at h1; exact h1) h
    · have new : ∀ {S' : Hp} {H' : Hp} {fp : Nat → List Addr} {σ : L2.St} {env : En}, ER (ctxOf (cxOf CX0 P w K mg base N qual (defScope st) f cdv A outer s H E).nox k N Ls G C none) H (fun a => H a ≠ none ∧ R a = none) H' S' fp σ env → Same R S' → Out H R H' S' := fun {S' H' fp σ env} E' s' =>
        ⟨s', E'.sub, fun a o e h => by
          by_cases hh : H a = none
          · exact .inl hh
          · exact .inr (E'.forb a ⟨hh, h⟩ o e)⟩
      refine ⟨fun _ _ _ _ _ h => h.elim, fun _ _ _ _ _ _ _ h => h.elim, fun ds p vs' env H' S' fp σ hq E' s' n1 n2 n3 _ hl hd => ?_, fun _ _ _ _ _ h => h.elim, fun _ _ _ _ _ h => h.elim⟩
      exact q ds p vs' H' S' hq E'.prot (new E' s') n2 n1 hl hd
end
/-! ## 15. Comprehensions -/
def visB (sc : Scope) (x : Str) : Bool := !(x == ("__debug__" : Str)) && !(x == ("__classdict__" : Str)) && match sc.names.lookup x with
  | some .local => true
  | some .cell => true
  | some .free => true
  | _ => false
def loclB (sc : Scope) (x : Str) : Bool := match sc.names.lookup x with
  | some .local => true
  | _ => false
theorem visB_ok {sc : Scope} {x : Str} (h : visB sc x = true) : Vis sc x := by
  unfold visB at h
  replace h := (Bool.and_eq_true_iff.mp h).2
  split at h
  · exact .inl (by assumption)
  · exact .inr (.inl (by assumption))
  · exact .inr (.inr (by assumption))
  · cases h
theorem visB_dbg {sc : Scope} {x : Str} (h : visB sc x = true) : (x == ("__debug__" : Str)) = false ∧ (x == ("__classdict__" : Str)) = false := by
  unfold visB at h
  have h2 := Bool.and_eq_true_iff.mp (Bool.and_eq_true_iff.mp h).1
  exact ⟨by simpa using h2.1, by simpa using h2.2⟩
theorem loclB_ok {sc : Scope} {x : Str} (h : loclB sc x = true) : sc.names.lookup x = some .local := by
  unfold loclB at h
  split at h
  · assumption
  · cases h
def Fblk (F : Cx → Prop) (scope : Scope) : Cx → Prop := fun Y => ∃ X, F X ∧ ∃ (s : Shared) (H : Hp) (C : Addr) (cl : List (Str × Addr)) (fp : List Addr), Y = X.blk s H scope (compEnvC scope cl C X.env) fp
def blkCtx (c : Ctx) (scope : Scope) (Vs Ls G : List Str) : Ctx := { c with F := Fblk c.F scope, Vi := fun x => x ∈ Vs, Lo := fun x => x ∈ Ls, G := G, pl := none }
structure BlkIs (sc scope : Scope) (Vs Ls G : List Str) : Prop where
  v : (Vs.all (visB (relS scope sc))) = true
  l : (Ls.all fun x => loclB (relS scope sc) x && decide (x ∈ Vs)) = true
  g : (G.all (gloB (relS scope sc))) = true
theorem COk.blk {c : Ctx} (ok : COk c) {sc scope : Scope} {Vs Ls G : List Str} (hsc : ∀ X, c.F X → X.env.scope = sc) (h : BlkIs sc scope Vs Ls G) : COk (blkCtx c scope Vs Ls G) where
  N := fun Y ⟨X, hX, s, H, C, cl, fp, e⟩ => by subst e; exact ok.N X hX
  nd := ok.nd
  eqs := fun Y ⟨X, hX, s, H, C, cl, fp, e⟩ => by subst e; exact ok.eqs X hX
  vis := fun Y ⟨X, hX, s, H, C, cl, fp, e⟩ x hx => by
    subst e
    have h1 := visB_ok (List.all_eq_true.mp h.v x hx)
    rw [← hsc X hX] at h1
    exact h1
  gl := fun Y ⟨X, hX, s, H, C, cl, fp, e⟩ x hx => by
    subst e
    have h1 := gloB_ok (List.all_eq_true.mp h.g x hx)
    rw [← hsc X hX] at h1
    exact h1
  calm := fun Y ⟨X, hX, s, H, C, cl, fp, e⟩ => by subst e; exact ok.calm X hX
  room := fun Y ⟨X, hX, s, H, C, cl, fp, e⟩ => by subst e; exact ok.room X hX
  loc := fun Y ⟨X, hX, s, H, C, cl, fp, e⟩ x hx => by
    subst e
    have h1 := loclB_ok (Bool.and_eq_true_iff.mp (List.all_eq_true.mp h.l x hx)).1
    rw [← hsc X hX] at h1
    exact ⟨.inl h1, .inr h1⟩
  lov := fun x hx => by
    have h2 : decide (x ∈ Vs) = true := (Bool.and_eq_true_iff.mp (List.all_eq_true.mp h.l x hx)).2
    show x ∈ Vs
    exact of_decide_eq_true h2
  dbg := fun x hx => visB_dbg (List.all_eq_true.mp h.v x hx)
  dbgG := fun x hx => gloB_dbg (List.all_eq_true.mp h.g x hx)
  own := fun Y ⟨X, hX, s, H, C, cl, fp, e⟩ => by subst e; exact PassesOwn.never
theorem CIs.blk {c : Ctx} {P : Program} {w : World} {K : PySem.W.Frag} {mg : Str → Option Value} {base : Heap} {k : Nat} {N Ls G : List Str} {C : Addr} {pl : Option (Addr × Addr)} {sc : Scope} (I : CIs c P w K mg base k N Ls G C pl sc) {scope : Scope} {Vs Ls' G' : List Str} (h : BlkIs sc scope Vs Ls' G') :
    CIs (blkCtx c scope Vs Ls' G') P w K mg base k N Ls' G' C none (relS scope sc) where
  sc := fun Y ⟨X, hX, s, H, C, cl, fp, e⟩ => by subst e; rw [← I.sc X hX]; rfl
  ok := I.ok.blk I.sc h
  P := I.P
  w := I.w
  K := I.K
  mg := I.mg
  base := I.base
  k := I.k
  N := I.N
  G := rfl
  C := I.C
  Lo := fun _ h => h
  pl := rfl
/-- what a block sees of an environment -/
inductive Mk (Vs Os : List Str) : List Str → En → En → Prop
  | nil : Mk Vs Os [] [] []
  | drop {x : Str} {N : List Str} {o : Option Slot} {e f : En} : Mk Vs Os N e f → Mk Vs Os (x :: N) (o :: e) (none :: f)
  | keep {x : Str} {N : List Str} {w : W} {e f : En} : x ∈ Vs → x ∉ Os → Mk Vs Os N e f → Mk Vs Os (x :: N) (some (.r w) :: e) (some (.r w) :: f)
theorem Mk.len {Vs Os N : List Str} {e f : En} (h : Mk Vs Os N e f) : e.length = f.length := by
  induction h with
  | nil => rfl
  | drop _ ih => simp [ih]
  | keep _ _ _ ih => simp [ih]
theorem Mk.get {Vs Os N : List Str} {e f : En} (h : Mk Vs Os N e f) : ∀ (i : Nat) t, f[i]? = some (some t) → ∃ w x, t = .r w ∧ e[i]? = some (some (.r w)) ∧ N[i]? = some x ∧ x ∈ Vs ∧ x ∉ Os := by
  induction h with
  | nil => intro i t q; simp at q
  | drop _ ih =>
    intro i t q
    cases i with
    | zero => simp at q
    | succ i => exact ih i t (by simpa using q)
  | keep h1 h2 _ ih =>
    intro i t q
    cases i with
    | zero => simp at q; exact ⟨_, _, q.symm, rfl, rfl, h1, h2⟩
    | succ i => exact ih i t (by simpa using q)
theorem wipe_keep {σ : L2.St} {i : Nat} : ∀ {vs : List Nat}, i ∉ vs → (wipe σ vs)[i]? = σ[i]?
  | [], _ => rfl
  | v :: vs, h => by
    unfold wipe
    rw [List.getElem?_set_ne (fun e => h (by simp [e]))]
    exact wipe_keep fun z => h (by simp [z])
theorem wipe_in {σ : L2.St} {i : Nat} : ∀ {vs : List Nat}, i ∈ vs → (wipe σ vs)[i]? = if i < σ.length then some none else none
  | v :: vs, h => by
    unfold wipe
    by_cases e : v = i
    · subst e
      by_cases hl : v < σ.length
      · rw [if_pos hl, List.getElem?_set_self (by rw [wipe_length]; exact hl)]
      · rw [if_neg hl, List.getElem?_eq_none (by rw [List.length_set, wipe_length]; omega)]
    · rw [List.getElem?_set_ne e]
      refine wipe_in ?_
      rcases List.mem_cons.mp h with z | z
      · exact absurd z.symm e
      · exact z
theorem wipe_only {N xs : List Str} {σ τ : L2.St} {vs : List Nat} (h : Only N xs (wipe σ vs) τ) (hx : ∀ x ∈ xs, ∃ i ∈ vs, N[i]? = some x) (nd : N.Nodup) : wipe τ vs = wipe σ vs := by
  have hl : τ.length = σ.length := by rw [h.1, wipe_length]
  refine List.ext_getElem? fun j => ?_
  by_cases hj : j ∈ vs
  · rw [wipe_in hj, wipe_in hj, hl]
  · rw [wipe_keep hj, h.2 j fun x e m => ?_]
    obtain ⟨i, hi, e2⟩ := hx x m
    have : i = j := nodup_ix nd e2 e
    exact hj (this ▸ hi)
def LcT (c : Ctx) (env : En) (ifs : List Expr) (R : Bool → Prop) : Prop := match ifs with
  | [] => R true
  | [e] => DT c env e R
  | _ => False
/-- what a comprehension over the items ds asks of its block -/
def LcJ (c : Ctx) (env : En) (tg : Expr) (ifs : List Expr) (elt : Expr) (ds : List PD) (P : List PD → Prop) : Prop :=
  ∃ J : List PD → List PD → Prop, J ds [] ∧ (∀ d rest acc, (∃ pre, ds = pre ++ d :: rest) → J (d :: rest) acc → DG c env tg d fun env2 => LcT c env2 ifs fun k =>
    (k = true → acc.length < 1000000 ∧ DE c env2 elt fun w => ∃ e, w = .d e ∧ J rest (acc ++ [e])) ∧ (k = false → J rest acc)) ∧ ∀ acc, J [] acc → P acc
def bG (X : Cx) (scope : Scope) (tg : Expr) : TG := fun v σ H Q => ∀ (s : Shared) (H0 : Hp) (C : Addr) (cl : List (Str × Addr)) (fp : List Addr), sG (X.blk s H0 scope (compEnvC scope cl C X.env) fp) tg v σ H Q
def bE (X : Cx) (scope : Scope) (e : Expr) : TE := fun σ H Q => ∀ (s : Shared) (H0 : Hp) (C : Addr) (cl : List (Str × Addr)) (fp : List Addr), sE (X.blk s H0 scope (compEnvC scope cl C X.env) fp) e σ H Q
def bT (X : Cx) (scope : Scope) (ifs : List Expr) : TT := match ifs with
  | [e] => fun σ H Q => ∀ (s : Shared) (H0 : Hp) (C : Addr) (cl : List (Str × Addr)) (fp : List Addr), sT (X.blk s H0 scope (compEnvC scope cl C X.env) fp) e σ H Q
  | _ => fun σ H Q => ifs = [] ∧ tYes σ H Q
theorem bG_ok {X : Cx} {scope : Scope} {tg : Expr} (s : Shared) (H : Hp) (C : Addr) (cl : List (Str × Addr)) (fp : List Addr) : PG (X.blk s H scope (compEnvC scope cl C X.env) fp) tg (bG X scope tg) :=
  ⟨fun pins s' σ H' v u Q I r h => h s H C cl fp u pins s' I r⟩
theorem bE_ok {X : Cx} {scope : Scope} {e : Expr} (s : Shared) (H : Hp) (C : Addr) (cl : List (Str × Addr)) (fp : List Addr) : PE (X.blk s H scope (compEnvC scope cl C X.env) fp) e (bE X scope e) :=
  ⟨fun pins s' σ H' Q I h => h s H C cl fp pins s' I⟩
theorem bT_ok {X : Cx} {scope : Scope} {ifs : List Expr} (s : Shared) (H : Hp) (C : Addr) (cl : List (Str × Addr)) (fp : List Addr) : PTs (X.blk s H scope (compEnvC scope cl C X.env) fp) ifs (bT X scope ifs) := by
  match ifs with
  | [] => exact ⟨fun pins s' σ H' Q I h => pts_nil.run pins s' σ H' Q I h.2⟩
  | [e] => exact pts_one ⟨fun pins s' σ H' Q I h => h s H C cl fp pins s' I⟩
  | _ :: _ :: _ => exact ⟨fun pins s' σ H' Q I h => absurd h.1 (by simp)⟩
section
variable {c : Ctx} {B : Hp} {Z : Addr → Prop} {H1 S1 : Hp} {fp : Nat → List Addr} {σ : L2.St} {env env' : En}
/-- the turns of a block, its new list at D -/
theorem lc_step (ok : COk c) {X : Cx} (hX : c.F X) {scope sc : Scope} {Vs Ls G Os N : List Str} {own : List (Str × Nat)} (hsc : ∀ X, c.F X → X.env.scope = sc) (hb : BlkIs sc scope Vs Ls G) (hN : c.N = N) (hO : Os = own.map (·.1)) (hix : ∀ p ∈ own, N[p.2]? = some p.1) (E : ER c B Z H1 S1 fp σ env) (m : Mk Vs Os N env env') {tg elt : Expr} {ifs : List Expr} {ds : List PD} {xs : List V} {P : List PD → Prop} (ht : ∀ x ∈ tnam tg, x ∈ Os) (dt : DtAll S1 xs ds)
    (h : LcJ (blkCtx c scope Vs Ls G) env' tg ifs elt ds P) {D : Addr} (hD : H1 D = none) : ∃ Pv : Nat → Hp → Prop, Pv 0 (upd H1 D (.lst [])) ∧ (∀ i H, Pv i H → Same S1 H) ∧
    (∀ i x H, xs[i]? = some x → Pv i H → bG X scope tg x (wipe σ (own.map (·.2))) H fun σ2 H2 => wipe σ2 (own.map (·.2)) = wipe σ (own.map (·.2)) ∧ bT X scope ifs σ2 H2 fun b H3 =>
      if b = true then bE X scope elt σ2 H3 fun y H4 => ∃ acc, H4 D = some (.lst acc) ∧ acc.length < sizeLine ∧ Pv (i + 1) (upd H4 D (.lst (acc ++ [y]))) else Pv (i + 1) H3) ∧
    (∀ H, Pv xs.length H → ∃ S' acc es, P es ∧ ER c B Z H S' fp σ env ∧ Same S1 S' ∧ Lone c B Z S' fp D ∧ H D = some (.lst acc) ∧ DtAll S' acc es) := by
  obtain ⟨J, j0, js, je⟩ := h
  have sD : S1 D = none := E.sub.free hD
  have er : ∀ {H S' : Hp} {acc : List V}, Same S1 S' → Same S' H → (∀ a o, H1 a = some o → H a = some o) → H D = some (.lst acc) → (∀ a, (H1 a ≠ none ∧ S1 a = none) ∨ a = D → ∀ o, S' a = some o → isTup o = true) → ER (blkCtx c scope Vs Ls G) (upd H1 D (.lst acc)) (fun a => (H1 a ≠ none ∧ S1 a = none) ∨ a = D) H S' (fun _ => []) (wipe σ (own.map (·.2))) env' := by
    intro H S' acc s1 s2 k e f
    refine ⟨by rw [wipe_length, E.len, m.len], s2, fun a o q => ?_, f, fun a za => ?_, fun i t q => ?_, fun i a ha => by simp at ha, fun i j a ha => by simp at ha, fun i t x q hx => ?_, fun p q h => by cases h⟩
    · by_cases h : a = D
      · subst h; rw [upd_same] at q; cases q; exact e
      · rw [upd_ne h] at q; exact k a o q
    · rcases za with z | z
      · cases h : H1 a with
        | none => exact absurd h z.1
        | some o => rw [k a o h]; simp
      · subst z; rw [e]; simp
    · obtain ⟨w, x, rfl, e1, e2, e3, e4⟩ := m.get i t q
      obtain ⟨v, g1, g2⟩ := E.slot i _ e1
      refine ⟨v, ?_, Rep.mono s1 (w := w) g2⟩
      rw [wipe_keep]
      · exact g1
      · intro hi
        obtain ⟨p, hp, e5⟩ := List.mem_map.mp hi
        have := hix p hp
        rw [e5, e2] at this; cases this
        exact e4 (by rw [hO]; exact List.mem_map.mpr ⟨p, hp, rfl⟩)
    · obtain ⟨w, y, rfl, e1, e2, e3, e4⟩ := m.get i t q
      have : N[i]? = some x := by rw [← hN]; exact hx
      rw [e2] at this; cases this
      exact e3
  refine ⟨fun i H => ∃ S' acc es, J (ds.drop i) es ∧ Same S1 S' ∧ Same S' H ∧ (∀ a o, H1 a = some o → H a = some o) ∧ H D = some (.lst acc) ∧ DtAll S' acc es ∧ ∀ a, (H1 a ≠ none ∧ S1 a = none) ∨ a = D → ∀ o, S' a = some o → isTup o = true, ?_, ?_, ?_, ?_⟩
  · refine ⟨S1, [], [], j0, Same.refl _, E.sub.trans (same_upd hD), same_upd hD, upd_same, .nil, fun a za o q => ?_⟩
    rcases za with z | z
    · rw [z.2] at q; cases q
    · subst z; rw [sD] at q; cases q
  · rintro i H ⟨S', acc, es, hJ, s1, s2, _⟩
    exact s1.trans s2
  · rintro i x H hi ⟨S', acc, es, hJ, s1, s2, k, e, r, f⟩ s H0 C cl fpb
    have hY : (blkCtx c scope Vs Ls G).F (X.blk s H0 scope (compEnvC scope cl C X.env) fpb) := ⟨X, hX, s, H0, C, cl, fpb, rfl⟩
    obtain ⟨d, hd, hr⟩ := dt.get' hi
    have hlt : i < ds.length := (List.getElem?_eq_some_iff.mp hd).1
    have hdr : ds.drop i = d :: ds.drop (i + 1) := by
      rw [List.drop_eq_getElem_cons hlt]
      rw [List.getElem?_eq_getElem hlt] at hd
      cases hd
      rfl
    rw [hdr] at hJ
    refine js d (ds.drop (i + 1)) es ⟨ds.take i, by rw [← hdr, List.take_append_drop]⟩ hJ _ hY _ _ H S' _ _ x (er s1 s2 k e f) (Dt.mono s1 _ _ hr) _ fun env2 σ2 hb2 E2 on => ?_
    refine ⟨wipe_only on (fun y hy => ?_) ok.nd, ?_⟩
    · obtain ⟨p, hp, e5⟩ := List.mem_map.mp (hO ▸ ht y hy)
      exact ⟨p.2, List.mem_map.mpr ⟨p, hp, rfl⟩, by rw [← e5]; show c.N[p.2]? = _; rw [hN]; exact hix p hp⟩
    · have fin : ∀ {b : Bool} {H3 S3 : Hp}, ((b = true → es.length < 1000000 ∧ DE (blkCtx c scope Vs Ls G) env2 elt fun w => ∃ e, w = .d e ∧ J (ds.drop (i + 1)) (es ++ [e])) ∧ (b = false → J (ds.drop (i + 1)) es)) →
          ER (blkCtx c scope Vs Ls G) (upd H1 D (.lst acc)) (fun a => (H1 a ≠ none ∧ S1 a = none) ∨ a = D) H3 S3 (fun _ => []) σ2 env2 → Same S' S3 →
          if b = true then bE X scope elt σ2 H3 fun y H4 => ∃ acc, H4 D = some (.lst acc) ∧ acc.length < sizeLine ∧ ∃ S' acc' es, J (ds.drop (i + 1)) es ∧ Same S1 S' ∧ Same S' (upd H4 D (.lst (acc ++ [y]))) ∧ (∀ a o, H1 a = some o → upd H4 D (.lst (acc ++ [y])) a = some o) ∧ upd H4 D (.lst (acc ++ [y])) D = some (.lst acc') ∧ DtAll S' acc' es ∧ ∀ a, (H1 a ≠ none ∧ S1 a = none) ∨ a = D → ∀ o, S' a = some o → isTup o = true
          else ∃ S' acc es, J (ds.drop (i + 1)) es ∧ Same S1 S' ∧ Same S' H3 ∧ (∀ a o, H1 a = some o → H3 a = some o) ∧ H3 D = some (.lst acc) ∧ DtAll S' acc es ∧ ∀ a, (H1 a ≠ none ∧ S1 a = none) ∨ a = D → ∀ o, S' a = some o → isTup o = true := by
        intro b H3 S3 hb3 E3 s3
        have k3 : ∀ {H' S' : Hp} {σ' : L2.St} {e' : En}, ER (blkCtx c scope Vs Ls G) (upd H1 D (.lst acc)) (fun a => (H1 a ≠ none ∧ S1 a = none) ∨ a = D) H' S' (fun _ => []) σ' e' → ∀ a o, H1 a = some o → H' a = some o := fun E' a o q => E'.prot a o (same_upd hD a o q)
        cases b with
        | false => exact iteF ⟨S3, acc, es, hb3.2 rfl, s1.trans s3, E3.sub, k3 E3, E3.prot D _ upd_same, DtAll.mono s3 _ _ r, E3.forb⟩
        | true =>
          refine iteT fun s H0 C cl fpb => ?_
          have hY : (blkCtx c scope Vs Ls G).F (X.blk s H0 scope (compEnvC scope cl C X.env) fpb) := ⟨X, hX, s, H0, C, cl, fpb, rfl⟩
          obtain ⟨hz, hE⟩ := hb3.1 rfl
          refine hE _ hY _ _ H3 S3 _ σ2 E3 _ fun w y H4 S4 ⟨ed, e1, hJ4⟩ E4 s4 r4 => ?_
          subst e1
          have e4 := E4.prot D _ upd_same
          have n4 : S4 D = none := by
            cases q : S4 D with
            | none => rfl
            | some o =>
              have q1 := E4.sub D o q
              rw [e4] at q1; cases q1
              exact absurd (E4.forb D (.inr rfl) _ q) Bool.false_ne_true
          refine ⟨acc, e4, Nat.lt_of_lt_of_le (by rw [r.length]; exact hz) (by decide), S4, acc ++ [y], es ++ [ed], hJ4, s1.trans (s3.trans s4), fun a o q => ?_, fun a o q => ?_, upd_same, (DtAll.mono (s3.trans s4) _ _ r).snoc r4, E4.forb⟩
          · have hne : a ≠ D := fun z => by rw [z, n4] at q; cases q
            rw [upd_ne hne]; exact E4.sub a o q
          · have hne : a ≠ D := fun z => by rw [z, hD] at q; cases q
            rw [upd_ne hne]; exact k3 E4 a o q
      match ifs, hb2 with
      | [], hb2 => exact ⟨rfl, fin hb2 E2 (Same.refl _)⟩
      | [e], hb2 =>
        intro s H0 C cl fpb
        have hY : (blkCtx c scope Vs Ls G).F (X.blk s H0 scope (compEnvC scope cl C X.env) fpb) := ⟨X, hX, s, H0, C, cl, fpb, rfl⟩
        exact hb2 _ hY _ _ H S' _ σ2 E2 _ fun b H3 S3 hb3 E3 s3 => fin hb3 E3 s3
      | _ :: _ :: _, hb2 => exact hb2.elim
  · rintro H ⟨S', acc, es, hJ, s1, s2, k, e, r, f⟩
    rw [dt.length, List.drop_length] at hJ
    have L := E.lone hD
    have n' : S' D = none := by
      cases q : S' D with
      | none => rfl
      | some o =>
        have q1 := s2 D o q
        rw [e] at q1; cases q1
        exact absurd (f D (.inr rfl) _ q) Bool.false_ne_true
    refine ⟨S', acc, es, je es hJ, E.grow k s1 s2 fun a o q h => ?_, s1, ⟨n', L.b, L.z, L.f, L.pl⟩, e, r⟩
    by_cases hh : H1 a = none
    · exact .inl hh
    · exact .inr (f a (.inl ⟨hh, h⟩) o q)
/-- the items of an iterable -/
inductive ItK | l | t
/-- a comprehension, as its tLc -/
theorem lc_sem (ok : COk c) {X : Cx} (hX : c.F X) {scope sc : Scope} {Vs Ls G Os N : List Str} {own : List (Str × Nat)} (hsc : ∀ X, c.F X → X.env.scope = sc) (hb : BlkIs sc scope Vs Ls G) (hN : c.N = N) (hO : Os = own.map (·.1)) (hix : ∀ p ∈ own, N[p.2]? = some p.1) {H S : Hp} (E : ER c B Z H S fp σ env) (m : Mk Vs Os N env env') {tg elt iter : Expr} {ifs : List Expr} {P : List PD → Prop} (ht : ∀ x ∈ tnam tg, x ∈ Os) {Q : VK}
    (q : ∀ ds p vs H' S', P ds → ER c B Z H' S' fp σ env → Same S S' → Lone c B Z S' fp p → H' p = some (.lst vs) → DtAll S' vs ds → Q (.ref p) H') (kd : ItK)
    (h : DE c env iter fun w => ∃ ds, w = .d (match kd with | .l => .list ds | .t => .tuple ds) ∧ LcJ (blkCtx c scope Vs Ls G) env' tg ifs elt ds P) :
    tLc (match kd with | .l => iList X.K (sE X iter) | .t => iTup X.K (sE X iter)) (bG X scope tg) (bT X scope ifs) (bE X scope elt) (own.map (·.2)) σ H Q := by
  cases kd with
  | l =>
    refine h X hX B Z H S fp σ E _ fun w v H1 S1 ⟨ds, e1, hJ⟩ E1 s1 r1 => ?_
    subst e1
    obtain ⟨l, xs, rfl, e2, e3⟩ := Dt.list_inv (S := S1) r1
    refine ⟨l, rfl, ⟨xs, Or.inl (Or.inl (E1.sub _ _ e2))⟩, fun D hD => ?_⟩
    obtain ⟨Pv, p0, p1, p2, p3⟩ := lc_step ok hX hsc hb hN hO hix E1 m ht e3 hJ hD
    refine lc_list (K := X.K) (a := l) (xs := xs) Pv p0 (fun i H' _ hp => Or.inl (Or.inl (p1 i H' hp _ _ e2))) p2 (Qd := Q (.ref D)) fun H' hp => ?_
    obtain ⟨S', acc, es, g1, g2, g3, g4, g5, g6⟩ := p3 H' hp
    exact q es D acc H' S' g1 g2 (s1.trans g3) g4 g5 g6
  | t =>
    refine h X hX B Z H S fp σ E _ fun w v H1 S1 ⟨ds, e1, hJ⟩ E1 s1 r1 => ?_
    subst e1
    obtain ⟨l, xs, rfl, e2, e3⟩ := Dt.tup_inv (S := S1) r1
    refine ⟨l, rfl, ⟨xs, Or.inl (Or.inl (E1.sub _ _ e2))⟩, fun D hD => ?_⟩
    obtain ⟨Pv, p0, p1, p2, p3⟩ := lc_step ok hX hsc hb hN hO hix E1 m ht e3 hJ hD
    refine lc_tup (K := X.K) (a := l) (xs := xs) Pv p0 (fun i H' _ hp => Or.inl (Or.inl (p1 i H' hp _ _ e2))) p2 (Qd := Q (.ref D)) fun H' hp => ?_
    obtain ⟨S', acc, es, g1, g2, g3, g4, g5, g6⟩ := p3 H' hp
    exact q es D acc H' S' g1 g2 (s1.trans g3) g4 g5 g6
end
section
variable {c : Ctx} {env env' : En} {N G0 Vs Ls G Os : List Str} {pos spos : Pos} {κ : Kt} {scope sc : Scope} {own : List (Str × Nat)} {tg elt iter : Expr} {ifs : List Expr} {P : List PD → Prop} {x : Str}
/-- what a block is, by its names alone -/
def blkB (N : List Str) (sc scope : Scope) (own : List (Str × Nat)) (Vs Os G : List Str) (tg : Expr) : Bool :=
  blkC N sc scope own && (Vs.all (visB (relS scope sc)) && (Os.all fun x => loclB (relS scope sc) x && decide (x ∈ Vs)) && (G.all (gloB (relS scope sc)))) && decide (Os = own.map (·.1)) && (tnam tg).all fun x => decide (x ∈ Os)
theorem blkB_ok {tg : Expr} (h : blkB N sc scope own Vs Os G tg = true) : BlkOk N sc scope own ∧ BlkIs sc scope Vs Os G ∧ Os = own.map (·.1) ∧ ∀ x ∈ tnam tg, x ∈ Os := by
  unfold blkB at h
  simp only [Bool.and_eq_true] at h
  obtain ⟨⟨⟨h1, ⟨h2, h3⟩, h4⟩, h5⟩, h6⟩ := h
  exact ⟨blkOk_by h1, ⟨h2, h3, h4⟩, of_decide_eq_true h5, fun x hx => of_decide_eq_true (List.all_eq_true.mp h6 x hx)⟩
/-- a comprehension over a list (.l), a tuple (.t) -/
theorem df_lc (kd : ItK) (ok : COk c) (hsc : ∀ X, c.F X → X.env.scope = sc) (hN : c.N = N) (Vs Os G : List Str) (own : List (Str × Nat)) (hb : blkB N sc scope own Vs Os G tg = true) (m : Mk Vs Os N env env')
    (h : DE c env iter fun w => ∃ ds, w = .d (match kd with | .l => .list ds | .t => .tuple ds) ∧ LcJ (blkCtx c scope Vs Os G) env' tg ifs elt ds P) (hs : ∀ (X : Cx) x, foldedSetIterable iter X.env x = pure x := by intro _ _; kernel_rfl) : DF c env (.ListComp elt [⟨tg, iter, ifs, 0⟩] scope pos) P := by
  intro X hX B Z H S fp σ E Q q
  obtain ⟨b1, b2, b3, b4⟩ := blkB_ok hb
  have hNX : X.N = N := by rw [ok.N X hX, hN]
  have b1' : BlkOk X.N X.env.scope scope own := by rw [hNX, hsc X hX]; exact b1
  have r := lc_sem ok hX hsc b2 hN b3 b1.ix E m b4 q kd h
  cases kd with
  | l => exact oE (pe_lc (ok.calm X hX) (by rw [hNX, ← hN]; exact ok.nd) (pi_list pE) b1' (bG_ok) (bT_ok) (bE_ok) (hs X)) r
  | t => exact oE (pe_lc (ok.calm X hX) (by rw [hNX, ← hN]; exact ok.nd) (pi_tup pE) b1' (bG_ok) (bT_ok) (bE_ok) (hs X)) r
/-- x = [..] -/
theorem ds_setLc {p' : Pos} (kd : ItK) (ok : COk c) (hsc : ∀ X, c.F X → X.env.scope = sc) (hN : c.N = N) {Lz : List Str} (hm : x ∈ N) (hLo : ∀ y ∈ Lz, c.Lo y) (hl0 : x ∈ Lz) (Vs Os G : List Str) (own : List (Str × Nat)) (hb : blkB N sc scope own Vs Os G tg = true) (hlx : (match sc.kind with | .function => true | _ => false) && loclB sc x && (p'.line == pos.line) && !(scope.names.any fun (n, k) => n == x && (k == .local || k == .cell)) = true) (m : Mk Vs Os N env env')
    (h : DE c env iter fun w => ∃ ds, w = .d (match kd with | .l => .list ds | .t => .tuple ds) ∧ LcJ (blkCtx c scope Vs Os G) env' tg ifs elt ds fun es => ∃ env2, Up N env x (.l es) env2 ∧ κ.nx env2) (hs : ∀ (X : Cx) x, foldedSetIterable iter X.env x = pure x := by intro _ _; kernel_rfl) : DS c env (.Assign [.Name x p'] (.ListComp elt [⟨tg, iter, ifs, 0⟩] scope pos) spos) κ := by
  intro X hX B Z H S fp σ E D k
  obtain ⟨b1, b2, b3, b4⟩ := blkB_ok hb
  have hNX : X.N = N := by rw [ok.N X hX, hN]
  have b1' : BlkOk X.N X.env.scope scope own := by rw [hNX, hsc X hX]; exact b1
  simp only [Bool.and_eq_true] at hlx
  obtain ⟨⟨⟨l0, l1⟩, l2⟩, l3⟩ := hlx
  have hk : X.env.scope.kind = .function := by
    rw [hsc X hX]
    revert l0
    cases sc.kind <;> intro l0 <;> first | rfl | cases l0
  have hy : X.env.scope.names.lookup x = some .local := by rw [hsc X hX]; exact loclB_ok l1
  have hl := hLo x hl0
  obtain ⟨i, hi, hi2⟩ := List.getElem_of_mem hm
  have hi : N[i]? = some x := by rw [List.getElem?_eq_getElem hi, hi2]
  obtain ⟨l4, l5⟩ := ok.loc X hX x hl
  have nd : X.N.Nodup := by rw [hNX, ← hN]; exact ok.nd
  have r := lc_sem (Q := fun v H' => gName i v σ H' D.nx) ok hX hsc b2 hN b3 b1.ix E m b4 (P := fun es => ∃ env2, Up N env x (.l es) env2 ∧ κ.nx env2) (fun ds p vs H' S' ⟨env2, u, hq⟩ E' s n hl' r => by
    obtain ⟨j, j1, j2, rfl⟩ := u.get
    obtain rfl : i = j := nodup_ix (by rw [← hN]; exact ok.nd) hi j1
    exact k.nx _ H' S' _ _ hq (E'.setO ok (s := .l ds) (l := [p]) (by rw [hN]; exact j1) (ok.lov x hl) j2 ⟨p, vs, rfl, hl', r, rfl⟩ fun a ha => by
      obtain rfl : a = p := by simpa using ha
      exact ⟨n, _, hl', rfl⟩) s) kd h
  have sw : swapsWith (.ListComp elt [⟨tg, iter, ifs, 0⟩] scope pos) (some (.Name x p')) spos.line X.env = pure true := sw_true hk hy l2 (by simpa using l3)
  cases kd with
  | l => exact oS (ps_setLc (i := i) (ok.calm X hX) nd (by rw [hNX]; exact hi) hy sw (pi_list pE) b1' (bG_ok) (bT_ok) (bE_ok) (hs X)) r
  | t => exact oS (ps_setLc (i := i) (ok.calm X hX) nd (by rw [hNX]; exact hi) hy sw (pi_tup pE) b1' (bG_ok) (bT_ok) (bE_ok) (hs X)) r
end
section
variable {X : Cx}
/-- sorted(d), d a dict whose keys are pairs of ints: a new list of its keys, in some order -/
theorem call_sorted_dT (hc : X.calm = true) : CallR X (.builtin "sorted") (fun xs H Q => ∃ d kvs, xs = [V.ref d] ∧ Rd H d (.dT kvs) ∧ (∀ p ∈ kvs, ∃ i j : Int, p.1 = [.inl i, .inl j]) ∧
    ∀ p bs ys, H p = none → IsKeys H kvs bs → ys.Perm (bs.map V.ref) → Q (.ref p) (upd H p (.lst ys))) := by
  intro pins s σ H xs us Q I r h
  obtain ⟨d, kvs, rfl, hd, hpr, q⟩ := h
  obtain ⟨u, rfl, rx⟩ := r.one
  cases rx
  obtain ⟨z, hs, ks, pr, o, es, ep, ho, hx, hdt, he, hn⟩ := (show ObjOk X.prog X.w H s.heap d (.dT kvs) from hd.ok I.hok)
  have l1 : es.size = ks.length := size_of_entries he
  have l2 : kvs.length = ks.length := Paired.length pr
  refine Calls.call_function_entry PyProof.Rows.kind_sorted PyProof.Rows.plain_sorted PyProof.Rows.entry_sorted (PyProof.Rows.args_sorted1 _) ?_
  unfold Builtin.«sorted»
  refine wpAny_bind (m := checkCount "sorted" 1 1 _) (wpAny_pure ?_)
  refine wpAny_bind (PySem.W.kdu_collect (A := X.A.in1) (kdl_raw hs hx hdt) (I.ok.hd hc) ho (by omega) fun h' tk acc hk hacc => ?_)
  have ea : acc.toList = ks.map fun x => Value.ref x.2.1 := by
    have hl : acc.toList.length = ks.length := by rw [Array.length_toList, hacc.1]; exact l1
    refine List.ext_getElem? fun j => ?_
    rw [List.getElem?_map]
    cases hj : acc.toList[j]? with
    | none =>
      rw [List.getElem?_eq_none (by have h1 := List.getElem?_eq_none_iff.mp hj; omega)]
      all_goals rfl
    | some v =>
      obtain ⟨en, hen, hv⟩ := hacc.2 j v (by rw [← Array.getElem?_toList]; exact hj)
      have qe := entry_at he j
      rw [hen] at qe
      cases hb : ks[j]? with
      | none => rw [hb] at qe; cases (show some en = none from qe)
      | some b =>
        rw [hb] at qe
        rw [hv, Option.some.inj (show some en = some _ from qe)]
        all_goals rfl
  have eb : acc.toList = (ks.map fun x => x.2.1).map Value.ref := by rw [ea, List.map_map]; all_goals rfl
  have hal : acc.toList.length ≤ sizeLine := by rw [ea, List.length_map]; omega
  have I1 : Inv X pins σ H { s with heap := h', toks := tk } := I.kept hk
  -- each key is a pair
  have hpair : ∀ v ∈ acc.toList, ∃ x y, Srt.IsPair h' v x y := by
    intro v hv
    rw [ea] at hv
    obtain ⟨b, hb, rfl⟩ := List.mem_map.mp hv
    obtain ⟨p, hp, hb2⟩ : ∃ p ∈ kvs, H b.2.1 = some (.tup (p.1.map kV)) := by
      have : ∀ {ps : List (List Key × V)} {bs : List (List Key × Addr × Value)}, KT H ps bs → b ∈ bs → ∃ p ∈ ps, H b.2.1 = some (.tup (p.1.map kV)) := by
        intro ps bs r
        induction r with
        | nil => intro h; cases h
        | cons h t ih =>
          intro hm
          rcases List.mem_cons.mp hm with z | z
          · subst z; exact ⟨_, List.mem_cons_self, h.2.1⟩
          · obtain ⟨p, h1, h2⟩ := ih z
            exact ⟨p, List.mem_cons_of_mem _ h1, h2⟩
      exact this pr hb
    obtain ⟨i, j, e⟩ := hpr p hp
    rw [e] at hb2
    obtain ⟨_, its2, r2, o2, ho2, hc2, n2, hd2⟩ := I1.hok _ _ hb2
    obtain ⟨u1, u2, rfl, ri, rj⟩ := vals2 r2
    obtain ⟨t1, rfl⟩ := ri
    obtain ⟨t2, rfl⟩ := rj
    exact ⟨i, j, b.2.1, o2, t1, t2, n2, rfl, ho2, hc2, hd2⟩
  refine wpAny_bind (wpAny_newList ?_ hal)
  have hoL : (h'.push (seqObj "list" acc.toList.toArray 0)).get? h'.objs.size = some (seqObj "list" acc.toList.toArray 0) := Heap.get?_push_size _ rfl
  show wpAny _ _ _ _ _ { s with heap := h'.push (seqObj "list" acc.toList.toArray 0), toks := tk }
  refine wpAny_bind (wpAny_holding (wpAny_call_entry PyProof.Rows.slot_list_sort ⟨_, hoL, rfl⟩ PyProof.Rows.entry_list_sort
    (Srt.list_sort_any (s := { s with heap := h'.push (seqObj "list" acc.toList.toArray 0), toks := tk }) hoL hal (fun h2 => Srt.pairs_sortable (s := { s with heap := h'.push (seqObj "list" acc.toList.toArray 0), toks := tk }) (by omega) (fun v hm => ?_) fun o e => ?_) fun out hp => ⟨_, rfl, ?_⟩)
    (PyProof.Rows.args_list_sort _)))
  · obtain ⟨x, y, p⟩ := hpair v hm
    exact ⟨x, y, p.keeps fun b o e _ => Heap.get?_push_of_some _ e⟩
  · have e' : some o = some (seqObj "list" acc.toList.toArray 0) := e.symm.trans hoL
    cases e'
    intro c
    exact absurd (Value.type.inj c) (by decide)
  · obtain ⟨e', he'⟩ := PyProof.Rows.sortedHeap_at (vs := acc.toList) (out := out.toArray) hoL
    have h3 : ∀ u ∈ out, ∃ a, u = Value.ref a := fun u hu => by
      have := hp.mem_iff.mp hu
      rw [eb] at this
      obtain ⟨a, _, e⟩ := List.mem_map.mp this
      exact ⟨a, e.symm⟩
    refine wpAny_pure ⟨_, rfl, .ref h'.objs.size, upd H h'.objs.size (.lst (out.map backV)), I1.laid (t' := tk) (fun b u e => ?_) (Nat.le_refl _)
      (show ObjOk X.prog X.w _ _ _ (.lst (out.map backV)) from ⟨by rw [List.length_map, hp.length_eq]; exact hal, out, e', vals_back h3, he'⟩), rfl, q _ _ _ (I1.hok.fresh (Nat.le_refl _)) (isKeys_of pr) ?_⟩
    · have hb : b < h'.objs.size := Heap.lt_size e
      rw [PyProof.Rows.sortedHeap_old (Nat.ne_of_lt hb) (by rw [size_push']; exact Nat.lt_succ_of_lt hb)]
      exact Heap.get?_push_of_some _ e
    · have h4 := hp.map backV
      rw [eb, List.map_map] at h4
      exact h4
end
/-- tuples may come into the region at any time -/
theorem ER.tups {c : Ctx} {B : Hp} {Z : Addr → Prop} {H S : Hp} {fp : Nat → List Addr} {σ : L2.St} {env : En} (E : ER c B Z H S fp σ env) {bs : List Addr} (h : ∀ b ∈ bs, ∃ xs, H b = some (.tup xs)) : ∃ S', ER c B Z H S' fp σ env ∧ Same S S' ∧ ∀ b ∈ bs, S' b = H b := by
  have s1 : Same S (fun a => open Classical in if a ∈ bs then H a else S a) := fun a o e => by
    show (if a ∈ bs then H a else S a) = some o
    by_cases z : a ∈ bs
    · rw [if_pos z]; exact E.sub a o e
    · rw [if_neg z]; exact e
  refine ⟨_, E.grow (Same.refl H) s1 (fun a o e => ?_) fun a o e hn => ?_, s1, fun b hb => if_pos hb⟩
  · by_cases z : a ∈ bs
    · exact (if_pos z).symm.trans e
    · exact E.sub a o ((if_neg z).symm.trans e)
  · by_cases z : a ∈ bs
    · obtain ⟨xs, hx⟩ := h a z
      have := (if_pos (c := a ∈ bs) z).symm.trans e
      rw [hx] at this; cases this
      exact .inr rfl
    · have := (if_neg (c := a ∈ bs) z).symm.trans e
      rw [hn] at this; cases this
section
variable {c : Ctx} {env : En} {N G : List Str} {pos p : Pos} {e : Expr}
theorem pairs_of {S H : Hp} : ∀ {kvs : List (Pl × PD)} {ks : List (List Key × V)} {bs : List Addr}, KvT S kvs ks → IsKeys H ks bs → ∀ b ∈ bs, ∃ k ∈ kvs.map (·.1), H b = some (.tup [.int k.1, .int k.2])
  | _, _, _, .nil, .nil, b, h => nomatch h
  | p :: _, q :: _, b0 :: _, .cons h1 t1, .cons h2 t2, b, h => by
    rcases List.mem_cons.mp h with z | z
    · subst z
      refine ⟨p.1, by simp, ?_⟩
      rw [h2, h1.1]
      rfl
    · obtain ⟨k, g1, g2⟩ := pairs_of t1 t2 b z
      exact ⟨k, by simp only [List.map_cons, List.mem_cons]; exact .inr g1, g2⟩
/-- sorted(x), x a dict whose keys are places -/
theorem df_sorted {P : List PD → Prop} (ok : COk c) (bi : BiOk c.mg) (hG : c.G = G) (hg : ("sorted" : Str) ∈ G) (h : DE c env e fun w => ∃ kvs, w = .dt kvs ∧ ∀ ps : List Pl, ps.length = kvs.length → (∀ p ∈ ps, p ∈ kvs.map (·.1)) → P (ps.map pd))
    (he : ∀ X : Cx, starEach (e :: []) X.env = (false, eval e X.env) :: starEach [] X.env := by intro _; kernel_rfl) (hpl : ∀ X : Cx, (backTo pos (starEach [] X.env)).any (·.1) = false := by intro _; kernel_rfl) : DF c env (.Call (.Name "sorted" p) [e] [] pos) P := by
  intro X hX B Z H S fp σ E Q q
  refine oE (pe_callB (call_sorted_dT (ok.calm X hX)) (ok.gl X hX _ (hG ▸ hg)) (ok.mgn hX bi.sorted) boot_sorted (pa_cons pE pa_nil (he X)) (by decide) (by decide) (he X) (hpl X)) ?_
  refine h X hX B Z H S fp σ E _ fun w v H1 S1 h1 E1 s1 r1 => ?_
  obtain ⟨kvs, rfl, hP⟩ := h1
  obtain ⟨a1, xs, rfl, e2, e3⟩ := r1
  refine ⟨a1, xs, rfl, .inl (E1.sub _ _ e2), fun p hp => ?_, fun p bs ys hp hk hperm => ?_⟩
  · have : ∀ {kvs : List (Pl × PD)} {xs : List (List Key × V)}, KvT S1 kvs xs → p ∈ xs → ∃ i j : Int, p.1 = [.inl i, .inl j] := by
      intro kvs xs e3
      induction e3 with
      | nil => intro hp; cases hp
      | cons h t ih =>
        intro hp
        rcases List.mem_cons.mp hp with z | z
        · subst z; exact ⟨_, _, h.1⟩
        · exact ih z
    exact this e3 hp
  · -- the keys' tuples come into the region
    have hb := pairs_of e3 hk
    have hlen : bs.length = kvs.length := by rw [← Paired.length hk, ← Paired.length e3]
    obtain ⟨S2, E2, s2, h2⟩ := E1.tups (bs := bs) fun b hm => by
      obtain ⟨k, _, g⟩ := hb b hm
      exact ⟨_, g⟩
    have key : ∀ (ys : List V), (∀ y ∈ ys, y ∈ bs.map V.ref) → ∃ ps : List Pl, ps.length = ys.length ∧ (∀ p ∈ ps, p ∈ kvs.map (·.1)) ∧ DtAll S2 ys (ps.map pd) := by
      intro ys
      induction ys with
      | nil => intro _; exact ⟨[], rfl, by simp, .nil⟩
      | cons y ys ih =>
        intro hy
        obtain ⟨ps, g1, g2, g3⟩ := ih fun z hz => hy z (List.mem_cons_of_mem _ hz)
        obtain ⟨b, hbm, rfl⟩ := List.mem_map.mp (hy y List.mem_cons_self)
        obtain ⟨k, k1, k2⟩ := hb b hbm
        refine ⟨k :: ps, by simp [g1], fun p hp => ?_, .cons (.tup (by rw [h2 b hbm]; exact k2) (.cons (.int _) (.cons (.int _) .nil))) g3⟩
        rcases List.mem_cons.mp hp with z | z
        · rw [z]; exact k1
        · exact g2 p z
    obtain ⟨ps, g1, g2, g3⟩ := key ys fun y hy => hperm.mem_iff.mp hy
    refine q _ p ys _ S2 (hP ps (by rw [g1, hperm.length_eq, List.length_map, hlen]) g2) (E2.newH hp) (s1.trans s2) (E2.lone hp) upd_same g3
end
/-! ## 16. One's own state: the Ledger's, the law's -/
inductive OKd
  | st
  | lg (tab : List (Str × PD)) (n : Int)
def ow : OKd → Ad → Co → Slot
  | .st, A, co => .ost A co
  | .lg tab n, A, co => .olg A ⟨tab, n, co⟩
def HD (C : Addr) (H S : Hp) (A : Ad) : OKd → Prop
  | .st => H A.a = some (.lst [.ref A.t, .ref A.m, .ref A.b, .ref A.f, .ref A.o])
  | .lg tab n => ∃ dx tb, H A.a = some (.ins C dx (ledF tb (.ref A.t) (.ref A.m) (.ref A.b) n (.ref A.f) (.ref A.o))) ∧ RTb S tb tab
theorem ow_iff {c : Ctx} {H S : Hp} {v : V} {fp : List Addr} {A : Ad} {k : OKd} {co : Co} : SRep c H S v fp (ow k A co) ↔ v = .ref A.a ∧ HD c.C H S A k ∧ OCo H S A.t A.m A.b A.f A.o A.bl co ∧ fp = A.fp ∧ fp.Nodup := by
  cases k with
  | st => exact Iff.rfl
  | lg tab n => exact ⟨fun ⟨dx, tb, h1, h2, h3, h4⟩ => ⟨h1, ⟨dx, tb, h2, h3⟩, h4⟩, fun ⟨h1, ⟨dx, tb, h2, h3⟩, h4⟩ => ⟨dx, tb, h1, h2, h3, h4⟩⟩
inductive Sel | t | m | b | f | o
def Ad.at (A : Ad) : Sel → Addr
  | .t => A.t
  | .m => A.m
  | .b => A.b
  | .f => A.f
  | .o => A.o
/-! ### dicts -/
section
variable {κ β : Type} [DecidableEq κ]
def pt (kvs : List (κ × β)) (k : κ) (d : β) : List (κ × β) :=
  if (kvs.any fun kv => decide (kv.1 = k)) = true then kvs.map (fun kv => if kv.1 = k then (kv.1, d) else kv) else kvs ++ [(k, d)]
theorem pt_nil {k : κ} {d : β} : pt [] k d = [(k, d)] := rfl
theorem pt_neg {p : κ × β} {r : List (κ × β)} {k : κ} {d : β} (h : ¬ p.1 = k) : pt (p :: r) k d = p :: pt r k d := by
  unfold pt
  rw [List.any_cons, decide_eq_false h, Bool.false_or]
  split
  · rw [List.map_cons, if_neg h]
  · rfl
theorem pt_map {r : List (κ × β)} {k : κ} {d : β} (h : ∀ q ∈ r, ¬ q.1 = k) : r.map (fun kv => if kv.1 = k then (kv.1, d) else kv) = r := by
  have : r.map (fun kv => if kv.1 = k then (kv.1, d) else kv) = r.map id := List.map_congr_left fun q hq => if_neg (h q hq)
  rw [this, List.map_id]
theorem pt_pos {p : κ × β} {r : List (κ × β)} {k : κ} {d : β} (h : p.1 = k) (hr : ∀ q ∈ r, ¬ q.1 = k) : pt (p :: r) k d = (p.1, d) :: r := by
  unfold pt
  rw [List.any_cons, decide_eq_true h, Bool.true_or, if_pos rfl, List.map_cons, if_pos h, pt_map hr]
theorem pt_keys {k : κ} {d : β} : ∀ {r : List (κ × β)}, (pt r k d).map (·.1) = if (r.any fun kv => decide (kv.1 = k)) = true then r.map (·.1) else r.map (·.1) ++ [k] := by
  intro r
  unfold pt
  split
  · rw [List.map_map]
    refine List.map_congr_left fun q _ => ?_
    show (if q.1 = k then (q.1, d) else q).1 = q.1
    split <;> rfl
  · rw [List.map_append] <;> rfl
theorem pt_nodup {k : κ} {d : β} {r : List (κ × β)} (h : (r.map (·.1)).Nodup) : ((pt r k d).map (·.1)).Nodup := by
  rw [pt_keys]
  split
  · exact h
  · rename_i hk
    refine List.nodup_append.mpr ⟨h, by simp, fun a ha b hb => ?_⟩
    obtain rfl : b = k := by simpa using hb
    rintro rfl
    refine hk (List.any_eq_true.mpr ?_)
    obtain ⟨q, hq, e⟩ := List.mem_map.mp ha
    exact ⟨q, hq, decide_eq_true e⟩
end
theorem lkp_pt {κ : Type} [DecidableEq κ] {k j : κ} {d : PD} : ∀ {r : List (κ × PD)}, lkp (pt r k d) j = if j = k then some d else lkp r j
  | [] => by
    by_cases h : j = k
    · subst h; simp [pt, lkp]
    · rw [if_neg h]; simp [pt, lkp, Ne.symm h]
  | p :: r => by
    have ih := lkp_pt (k := k) (j := j) (d := d) (r := r)
    unfold pt at ih ⊢
    rw [List.any_cons]
    by_cases hp : p.1 = k
    · rw [decide_eq_true hp, Bool.true_or, if_pos rfl]
      rw [List.map_cons, if_pos hp]
      by_cases hj : j = k
      · subst hj; rw [if_pos rfl]; simp [lkp, hp]
      · rw [if_neg hj]
        have e1 : ∀ r : List (κ × PD), lkp (r.map fun kv => if kv.1 = k then (kv.1, d) else kv) j = lkp r j := by
          intro r
          induction r with
          | nil => rfl
          | cons q r ih =>
            rw [List.map_cons]
            by_cases hq : q.1 = k
            · rw [if_pos hq]
              have : ¬ q.1 = j := fun e => hj (e.symm.trans hq)
              have g := ih
              simp only [lkp, List.find?_cons, decide_eq_false this] at g ⊢
              exact g
            · rw [if_neg hq]
              have g := ih
              simp only [lkp, List.find?_cons] at g ⊢
              by_cases hz : q.1 = j
              · simp [hz]
              · simp only [decide_eq_false hz]; exact g
        have hpj : ¬ p.1 = j := fun e => hj (e.symm.trans hp)
        have g := e1 r
        simp only [lkp, List.find?_cons, decide_eq_false hpj] at g ⊢
        exact g
    · rw [decide_eq_false hp, Bool.false_or]
      have step : ∀ l : List (κ × PD), lkp (p :: l) j = if p.1 = j then some p.2 else lkp l j := by
        intro l
        by_cases hz : p.1 = j
        · simp [lkp, hz]
        · simp [lkp, hz]
      by_cases ha : (r.any fun kv => decide (kv.1 = k)) = true
      · rw [if_pos ha] at ih ⊢
        rw [List.map_cons, if_neg hp, step, step, ih]
        by_cases hj : j = k
        · subst hj; rw [if_pos rfl, if_neg hp, if_pos rfl]
        · rw [if_neg hj, if_neg hj]
      · rw [if_neg ha] at ih ⊢
        rw [List.cons_append, step, step, ih]
        by_cases hj : j = k
        · subst hj; rw [if_pos rfl, if_neg hp, if_pos rfl]
        · rw [if_neg hj, if_neg hj]
theorem pk_inj {a b : Pl} : pk a = pk b ↔ a = b := by
  obtain ⟨a1, a2⟩ := a
  obtain ⟨b1, b2⟩ := b
  unfold pk
  simp
theorem KvT.put {S : Hp} {v : V} {d : PD} {k : Pl} (hv : Dt S v d) {kvs : List (Pl × PD)} {ks : List (List Key × V)} (r : KvT S kvs ks) : KvT S (pt kvs k d) (putK ks (pk k) v) := by
  have ha : ∀ {kvs : List (Pl × PD)} {ks : List (List Key × V)}, KvT S kvs ks → (kvs.any fun p => decide (p.1 = k)) = (ks.any fun q => decide (q.1 = pk k)) := by
    intro kvs ks r
    induction r with
    | nil => rfl
    | cons h t ih =>
      rw [List.any_cons, List.any_cons, ih, h.1]
      congr 1
      exact decide_eq_decide.mpr pk_inj.symm
  have hm : ∀ {kvs : List (Pl × PD)} {ks : List (List Key × V)}, KvT S kvs ks → KvT S (kvs.map fun kv => if kv.1 = k then (kv.1, d) else kv) (ks.map fun kv => if kv.1 = pk k then (kv.1, v) else kv) := by
    intro kvs ks r
    induction r with
    | nil => exact .nil
    | cons h t ih =>
      rw [List.map_cons, List.map_cons]
      refine .cons ?_ ih
      rename_i p q _ _
      by_cases e : p.1 = k
      · have : q.1 = pk k := by rw [h.1, e]
        rw [if_pos e, if_pos this]
        exact ⟨h.1, hv⟩
      · have : ¬ q.1 = pk k := fun z => e (pk_inj.mp (h.1.symm.trans z))
        rw [if_neg e, if_neg this]
        exact h
  unfold pt putK
  rw [ha r]
  split
  · exact hm r
  · have app : ∀ {kvs : List (Pl × PD)} {ks : List (List Key × V)}, KvT S kvs ks → KvT S (kvs ++ [(k, d)]) (ks ++ [(pk k, v)]) := by
      intro kvs ks r
      induction r with
      | nil => exact .cons ⟨rfl, hv⟩ .nil
      | cons h t ih => exact .cons h ih
    exact app r
theorem KvT.len {S : Hp} {kvs : List (Pl × PD)} {ks : List (List Key × V)} (r : KvT S kvs ks) : ks.length = kvs.length := (Paired.length r).symm
/-! ### mailboxes -/
theorem KvB.len {H S : Hp} : ∀ {ps : List (Pl × PD)} {qs : List (List Key × V)} {as : List Addr}, KvB H S ps qs as → qs.length = ps.length
  | [], [], [], _ => rfl
  | _ :: _, _ :: _, _ :: _, h => by simp [KvB.len h.2]
  | [], [], _ :: _, z => z.elim
  | [], _ :: _, as, z => by cases as <;> exact z.elim
  | _ :: _, [], as, z => by cases as <;> exact z.elim
  | _ :: _, _ :: _, [], z => z.elim
theorem KvB.stay {H H' S S' : Hp} (hS : Same S S') : ∀ {ps : List (Pl × PD)} {qs : List (List Key × V)} {as : List Addr}, (∀ a ∈ as, H' a = H a) → KvB H S ps qs as → KvB H' S' ps qs as
  | [], [], [], _, _ => trivial
  | _ :: _, _ :: _, a :: _, h, ⟨⟨z1, z2, vs, ds, z3, z4, z5⟩, z6⟩ => ⟨⟨z1, z2, vs, ds, by rw [h a (by simp)]; exact z3, z4, DtAll.mono hS _ _ z5⟩, KvB.stay hS (fun x hx => h x (by simp [hx])) z6⟩
  | [], [], _ :: _, _, z => z.elim
  | [], _ :: _, as, _, z => by cases as <;> exact z.elim
  | _ :: _, [], as, _, z => by cases as <;> exact z.elim
  | _ :: _, _ :: _, [], _, z => z.elim
/-- a mailbox is put in -/
theorem KvB.put {H S : Hp} {k : Pl} {l : Addr} {vs : List V} {ds : List PD} (hl : H l = some (.lst vs)) (hd : DtAll S vs ds) : ∀ {ps : List (Pl × PD)} {qs : List (List Key × V)} {as : List Addr}, (ps.map (·.1)).Nodup → as.Nodup → l ∉ as → KvB H S ps qs as →
    ∃ as', KvB H S (pt ps k (.list ds)) (putK qs (pk k) (.ref l)) as' ∧ (∀ a ∈ as', a ∈ as ∨ a = l) ∧ as'.Nodup
  | [], [], [], _, _, _, _ => ⟨[l], ⟨⟨rfl, rfl, vs, ds, hl, rfl, hd⟩, trivial⟩, fun a h => .inr (by simpa using h), by simp⟩
  | p :: ps, q :: qs, a :: as, hn, ha, hla, ⟨⟨z1, z2, us, es, z3, z4, z5⟩, z6⟩ => by
    rw [List.map_cons, List.nodup_cons] at hn
    rw [List.nodup_cons] at ha
    by_cases e : p.1 = k
    · have e2 : q.1 = pk k := by rw [z1, e]
      have n1 : ∀ x ∈ ps, ¬ x.1 = k := fun x hx hk => hn.1 (List.mem_map.mpr ⟨x, hx, hk.trans e.symm⟩)
      have n2 : ∀ {ps : List (Pl × PD)} {qs : List (List Key × V)} {as : List Addr}, (∀ x ∈ ps, ¬ x.1 = k) → KvB H S ps qs as → ∀ x ∈ qs, ¬ x.1 = pk k := by
        intro ps
        induction ps with
        | nil => intro qs as _ z x hx; cases qs with
          | nil => cases hx
          | cons _ _ => cases as <;> exact z.elim
        | cons y ys ih =>
          intro qs as h z x hx
          cases qs with
          | nil => cases hx
          | cons w ws =>
            cases as with
            | nil => exact z.elim
            | cons b bs =>
              obtain ⟨⟨g1, _⟩, g2⟩ := z
              rcases List.mem_cons.mp hx with hz | hz
              · subst hz; exact fun e => h y List.mem_cons_self (pk_inj.mp (g1.symm.trans e))
              · exact ih (fun x hx => h x (List.mem_cons_of_mem _ hx)) g2 x hz
      rw [pt_pos e n1, show putK (q :: qs) (pk k) (V.ref l) = (q.1, .ref l) :: qs from pt_pos e2 (n2 n1 z6)]
      refine ⟨l :: as, ⟨⟨z1, rfl, vs, ds, hl, rfl, hd⟩, z6⟩, fun x hx => ?_, List.nodup_cons.mpr ⟨fun h => hla (List.mem_cons_of_mem _ h), ha.2⟩⟩
      rcases List.mem_cons.mp hx with hz | hz
      · exact .inr hz
      · exact .inl (List.mem_cons_of_mem _ hz)
    · have e2 : ¬ q.1 = pk k := fun h => e (pk_inj.mp (z1.symm.trans h))
      obtain ⟨as', g1, g2, g3⟩ := KvB.put hl hd (k := k) hn.2 ha.2 (fun h => hla (List.mem_cons_of_mem _ h)) z6
      rw [pt_neg e, show putK (q :: qs) (pk k) (V.ref l) = q :: putK qs (pk k) (.ref l) from pt_neg e2]
      refine ⟨a :: as', ⟨⟨z1, z2, us, es, z3, z4, z5⟩, g1⟩, fun x hx => ?_, List.nodup_cons.mpr ⟨fun h => ?_, g3⟩⟩
      · rcases List.mem_cons.mp hx with hz | hz
        · exact .inl (by simp [hz])
        · rcases g2 x hz with g | g
          · exact .inl (List.mem_cons_of_mem _ g)
          · exact .inr g
      · rcases g2 a h with g | g
        · exact ha.1 g
        · exact hla (by simp [g])
  | [], [], _ :: _, _, _, _, z => z.elim
  | [], _ :: _, as, _, _, _, z => by cases as <;> exact z.elim
  | _ :: _, [], as, _, _, _, z => by cases as <;> exact z.elim
  | _ :: _, _ :: _, [], _, _, _, z => z.elim
/-- a mailbox is changed in its place -/
theorem KvB.chg {H S : Hp} {k : Pl} {d : PD} : ∀ {ps : List (Pl × PD)} {qs : List (List Key × V)} {as : List Addr}, (ps.map (·.1)).Nodup → as.Nodup → KvB H S ps qs as → lkp ps k = some d →
    ∃ a vs ds, a ∈ as ∧ valV qs (pk k) = some (.ref a) ∧ H a = some (.lst vs) ∧ d = .list ds ∧ DtAll S vs ds ∧ ∀ vs' ds', DtAll S vs' ds' → KvB (upd H a (.lst vs')) S (pt ps k (.list ds')) qs as
  | [], [], [], _, _, _, h => by simp [lkp] at h
  | p :: ps, q :: qs, a :: as, hn, ha, ⟨⟨z1, z2, us, es, z3, z4, z5⟩, z6⟩, h => by
    rw [List.map_cons, List.nodup_cons] at hn
    rw [List.nodup_cons] at ha
    by_cases e : p.1 = k
    · have e2 : q.1 = pk k := by rw [z1, e]
      have n1 : ∀ x ∈ ps, ¬ x.1 = k := fun x hx hk => hn.1 (List.mem_map.mpr ⟨x, hx, hk.trans e.symm⟩)
      have hd : d = p.2 := by simpa [lkp, e] using h.symm
      refine ⟨a, us, es, List.mem_cons_self, by rw [valV_pos e2, z2], z3, hd.trans z4, z5, fun vs' ds' r => ?_⟩
      rw [pt_pos e n1]
      exact ⟨⟨z1, z2, vs', ds', upd_same, rfl, r⟩, KvB.stay (Same.refl S) (fun x hx => upd_ne fun hz => ha.1 (hz ▸ hx)) z6⟩
    · have e2 : ¬ q.1 = pk k := fun h => e (pk_inj.mp (z1.symm.trans h))
      have h' : lkp ps k = some d := by
        rw [← h]
        simp [lkp, e]
      obtain ⟨b, vs, ds, g1, g2, g3, g4, g5, g6⟩ := KvB.chg hn.2 ha.2 z6 h'
      refine ⟨b, vs, ds, List.mem_cons_of_mem _ g1, by rw [valV_neg e2]; exact g2, g3, g4, g5, fun vs' ds' r => ?_⟩
      rw [pt_neg e]
      refine ⟨⟨z1, z2, us, es, ?_, z4, z5⟩, g6 vs' ds' r⟩
      rw [upd_ne fun hz => ha.1 (by rw [hz]; exact g1)]
      exact z3
  | [], [], _ :: _, _, _, z, _ => z.elim
  | [], _ :: _, as, _, _, z, _ => by cases as <;> exact z.elim
  | _ :: _, [], as, _, _, z, _ => by cases as <;> exact z.elim
  | _ :: _, _ :: _, [], _, _, z, _ => z.elim
section
variable {H S : Hp} {A : Ad} {co : Co} {C : Addr} {k : OKd}
abbrev OCA (H S : Hp) (A : Ad) (co : Co) : Prop := OCo H S A.t A.m A.b A.f A.o A.bl co
theorem HD.upd {w : Addr} {o : HO} (h : HD C H S A k) (hw : w ≠ A.a) : HD C (upd H w o) S A k := by
  cases k with
  | st => show L2.upd H w o A.a = _; rw [upd_ne (Ne.symm hw)]; exact h
  | lg tab n =>
    obtain ⟨dx, tb, h1, h2⟩ := h
    exact ⟨dx, tb, by rw [upd_ne (Ne.symm hw)]; exact h1, h2⟩
theorem OCo.setT {kvs : List (Pl × PD)} {ks : List (List Key × V)} (nd : A.fp.Nodup) (h : OCA H S A co) (r : KvT S kvs ks) : OCA (upd H A.t (.dT ks)) S A { co with t := kvs } := by
  obtain ⟨a, t, m, b, f, o, bl⟩ := A
  simp only [Ad.fp, List.nodup_cons, List.mem_cons, not_or] at nd
  obtain ⟨⟨k1, e1, r1⟩, ⟨k2, e2, r2⟩, ⟨k3, e3, r3, r3n⟩, ⟨k4, e4, r4⟩, ⟨k5, e5, r5⟩⟩ := h
  obtain ⟨_, ⟨n1, n2, n3, n4, n5⟩, _⟩ := nd
  exact ⟨⟨ks, upd_same, r⟩, ⟨k2, by rw [upd_ne (Ne.symm n1)]; exact e2, r2⟩, ⟨k3, by rw [upd_ne (Ne.symm n2)]; exact e3, KvB.stay (Same.refl S) (fun x hx => upd_ne fun e => n5 (by rw [e] at hx; exact hx)) r3, r3n⟩, ⟨k4, by rw [upd_ne (Ne.symm n3)]; exact e4, r4⟩, ⟨k5, by rw [upd_ne (Ne.symm n4)]; exact e5, r5⟩⟩
theorem OCo.setM {kvs : List (Pl × PD)} {ks : List (List Key × V)} (nd : A.fp.Nodup) (h : OCA H S A co) (r : KvT S kvs ks) : OCA (upd H A.m (.dT ks)) S A { co with m := kvs } := by
  obtain ⟨a, t, m, b, f, o, bl⟩ := A
  simp only [Ad.fp, List.nodup_cons, List.mem_cons, not_or] at nd
  obtain ⟨⟨k1, e1, r1⟩, ⟨k2, e2, r2⟩, ⟨k3, e3, r3, r3n⟩, ⟨k4, e4, r4⟩, ⟨k5, e5, r5⟩⟩ := h
  obtain ⟨_, ⟨n0, _⟩, ⟨n2, n3, n4, n5⟩, _⟩ := nd
  exact ⟨⟨k1, by rw [upd_ne n0]; exact e1, r1⟩, ⟨ks, upd_same, r⟩, ⟨k3, by rw [upd_ne (Ne.symm n2)]; exact e3, KvB.stay (Same.refl S) (fun x hx => upd_ne fun e => n5 (by rw [e] at hx; exact hx)) r3, r3n⟩, ⟨k4, by rw [upd_ne (Ne.symm n3)]; exact e4, r4⟩, ⟨k5, by rw [upd_ne (Ne.symm n4)]; exact e5, r5⟩⟩
theorem OCo.setF {vs : List V} {ds : List PD} (nd : A.fp.Nodup) (h : OCA H S A co) (r : DtAll S vs ds) : OCA (upd H A.f (.lst vs)) S A { co with f := ds } := by
  obtain ⟨a, t, m, b, f, o, bl⟩ := A
  simp only [Ad.fp, List.nodup_cons, List.mem_cons, not_or] at nd
  obtain ⟨⟨k1, e1, r1⟩, ⟨k2, e2, r2⟩, ⟨k3, e3, r3, r3n⟩, ⟨k4, e4, r4⟩, ⟨k5, e5, r5⟩⟩ := h
  obtain ⟨_, ⟨_, _, n1, _⟩, ⟨_, n2, _⟩, ⟨n3, _⟩, ⟨n4, n5⟩, _⟩ := nd
  exact ⟨⟨k1, by rw [upd_ne n1]; exact e1, r1⟩, ⟨k2, by rw [upd_ne n2]; exact e2, r2⟩, ⟨k3, by rw [upd_ne n3]; exact e3, KvB.stay (Same.refl S) (fun x hx => upd_ne fun e => n5 (by rw [e] at hx; exact hx)) r3, r3n⟩, ⟨vs, upd_same, r⟩, ⟨k5, by rw [upd_ne (Ne.symm n4)]; exact e5, r5⟩⟩
theorem OCo.setO {vs : List V} {ds : List PD} (nd : A.fp.Nodup) (h : OCA H S A co) (r : DtAll S vs ds) : OCA (upd H A.o (.lst vs)) S A { co with o := ds } := by
  obtain ⟨a, t, m, b, f, o, bl⟩ := A
  simp only [Ad.fp, List.nodup_cons, List.mem_cons, not_or] at nd
  obtain ⟨⟨k1, e1, r1⟩, ⟨k2, e2, r2⟩, ⟨k3, e3, r3, r3n⟩, ⟨k4, e4, r4⟩, ⟨k5, e5, r5⟩⟩ := h
  obtain ⟨_, ⟨_, _, _, n1, _⟩, ⟨_, _, n2, _⟩, ⟨_, n3, _⟩, ⟨n4, _⟩, ⟨n5, _⟩⟩ := nd
  exact ⟨⟨k1, by rw [upd_ne n1]; exact e1, r1⟩, ⟨k2, by rw [upd_ne n2]; exact e2, r2⟩, ⟨k3, by rw [upd_ne n3]; exact e3, KvB.stay (Same.refl S) (fun x hx => upd_ne fun e => n5 (by rw [e] at hx; exact hx)) r3, r3n⟩, ⟨k4, by rw [upd_ne n4]; exact e4, r4⟩, ⟨vs, upd_same, r⟩⟩
/-- o elsewhere: a new list takes the place -/
theorem OCo.newO {vs : List V} {ds : List PD} {l : Addr} (h : OCA H S A co) (hl : H l = some (.lst vs)) (r : DtAll S vs ds) : OCA H S { A with o := l } { co with o := ds } := ⟨h.t, h.m, h.b, h.f, vs, hl, r⟩
/-- a mailbox changed in its place -/
theorem OCo.chgB {p : Pl} {d : PD} (nd : A.fp.Nodup) (h : OCA H S A co) (e : lkp co.b p = some d) : ∃ ks w vs ds, H A.b = some (.dT ks) ∧ KvT S [] [] ∧ w ∈ A.bl ∧ valV ks (pk p) = some (.ref w) ∧ H w = some (.lst vs) ∧ d = .list ds ∧ DtAll S vs ds ∧
    ∀ vs' ds', DtAll S vs' ds' → OCA (upd H w (.lst vs')) S A { co with b := pt co.b p (.list ds') } := by
  obtain ⟨a, t, m, b, f, o, bl⟩ := A
  simp only [Ad.fp, List.nodup_cons, List.mem_cons, not_or] at nd
  obtain ⟨⟨k1, e1, r1⟩, ⟨k2, e2, r2⟩, ⟨k3, e3, r3, r3n⟩, ⟨k4, e4, r4⟩, ⟨k5, e5, r5⟩⟩ := h
  obtain ⟨_, ⟨_, _, _, _, n1⟩, ⟨_, _, _, n2⟩, ⟨_, _, n3⟩, ⟨_, n4⟩, n5, n6⟩ := nd
  obtain ⟨w, vs, ds, g1, g2, g3, g4, g5, g6⟩ := KvB.chg r3n n6 r3 e
  have ne : ∀ {x : Addr}, x ∉ bl → x ≠ w := fun hx z => hx (z ▸ g1)
  refine ⟨k3, w, vs, ds, e3, .nil, g1, g2, g3, g4, g5, fun vs' ds' r => ?_⟩
  exact ⟨⟨k1, by rw [upd_ne (ne n1)]; exact e1, r1⟩, ⟨k2, by rw [upd_ne (ne n2)]; exact e2, r2⟩, ⟨k3, by rw [upd_ne (ne n3)]; exact e3, g6 vs' ds' r, pt_nodup r3n⟩, ⟨k4, by rw [upd_ne (ne n4)]; exact e4, r4⟩, ⟨k5, by rw [upd_ne (ne n5)]; exact e5, r5⟩⟩
/-- a new list as a mailbox -/
theorem OCo.newB {p : Pl} {l : Addr} {vs : List V} {ds : List PD} (nd : A.fp.Nodup) (h : OCA H S A co) (hl : H l = some (.lst vs)) (hf : l ∉ A.fp) (r : DtAll S vs ds) : ∃ ks as', H A.b = some (.dT ks) ∧ ks.length = co.b.length ∧ (∀ a ∈ as', a ∈ A.bl ∨ a = l) ∧ ({ A with bl := as' } : Ad).fp.Nodup ∧
    OCA (upd H A.b (.dT (putK ks (pk p) (.ref l)))) S { A with bl := as' } { co with b := pt co.b p (.list ds) } := by
  obtain ⟨a, t, m, b, f, o, bl⟩ := A
  simp only [Ad.fp, List.nodup_cons, List.mem_cons, not_or] at nd hf
  obtain ⟨⟨k1, e1, r1⟩, ⟨k2, e2, r2⟩, ⟨k3, e3, r3, r3n⟩, ⟨k4, e4, r4⟩, ⟨k5, e5, r5⟩⟩ := h
  obtain ⟨⟨a1, a2, a3, a4, a5, a6⟩, ⟨t1, t2, t3, t4, n1⟩, ⟨m1, m2, m3, n2⟩, ⟨b1, b2, n3⟩, ⟨f1, n4⟩, n5, n6⟩ := nd
  obtain ⟨l0, l1, l2, l3, l4, l5, l6⟩ := hf
  obtain ⟨as', g1, g2, g3⟩ := KvB.put (k := p) hl r r3n n6 l6 r3
  have off : ∀ {x : Addr}, x ∉ bl → x ≠ l → x ∉ as' := fun h1 h2 hx => by
    rcases g2 _ hx with z | z
    · exact h1 z
    · exact h2 z
  refine ⟨k3, as', e3, KvB.len r3, g2, ?_, ?_⟩
  · simp only [Ad.fp, List.nodup_cons, List.mem_cons, not_or]
    exact ⟨⟨a1, a2, a3, a4, a5, off a6 (Ne.symm l0)⟩, ⟨t1, t2, t3, t4, off n1 (Ne.symm l1)⟩, ⟨m1, m2, m3, off n2 (Ne.symm l2)⟩, ⟨b1, b2, off n3 (Ne.symm l3)⟩, ⟨f1, off n4 (Ne.symm l4)⟩, off n5 (Ne.symm l5), g3⟩
  · exact ⟨⟨k1, by rw [upd_ne t2]; exact e1, r1⟩, ⟨k2, by rw [upd_ne m1]; exact e2, r2⟩, ⟨_, upd_same, KvB.stay (Same.refl S) (fun x hx => upd_ne fun z => off n3 (Ne.symm l3) (by rw [z] at hx; exact hx)) g1, pt_nodup r3n⟩, ⟨k4, by rw [upd_ne (Ne.symm b1)]; exact e4, r4⟩, ⟨k5, by rw [upd_ne (Ne.symm b2)]; exact e5, r5⟩⟩
end
section
variable {c : Ctx} {B : Hp} {Z : Addr → Prop} {H S : Hp} {fp : Nat → List Addr} {σ : L2.St} {env : En} {i : Nat} {A A' : Ad} {co co' : Co} {k k' : OKd}
/-- a change of one object of one's own -/
theorem ER.own (E : ER c B Z H S fp σ env) (hi : env[i]? = some (some (ow k A co))) {w : Addr} {o : HO} (hw : w ∈ A.fp) (ho : isTup o = false) (ha : A'.a = A.a) (hf : ∀ a ∈ A'.fp, a ∈ A.fp ∨ (Lone c B Z S fp a ∧ ∃ o, H a = some o ∧ isTup o = false)) (nd : A'.fp.Nodup)
    (h1 : HD c.C (upd H w o) S A' k') (h2 : OCA (upd H w o) S A' co') : ER c B Z (upd H w o) S (fun j => if j = i then A'.fp else fp j) σ (env.set i (some (ow k' A' co'))) := by
  obtain ⟨v, e1, e2⟩ := E.slot i _ hi
  obtain ⟨g1, g2, g3, g4, g5⟩ := ow_iff.mp e2
  have there : ∀ a ∈ A.fp, S a = none ∧ ∃ u, upd H w o a = some u ∧ isTup u = false := fun a ha => by
    obtain ⟨q1, _, _, u, q2, q3⟩ := E.out i a (by rw [g4]; exact ha)
    refine ⟨q1, ?_⟩
    by_cases z : a = w
    · subst z; exact ⟨o, upd_same, ho⟩
    · exact ⟨u, by rw [upd_ne z]; exact q2, q3⟩
  refine E.chg (s' := ow k' A' co') (l' := A'.fp) e1 ⟨_, hi⟩ (Same.refl S) (fun a u e => ?_) (fun a u e hn => ?_) (fun a ha => ?_) (fun a u e h => by rw [h] at e; cases e) (ow_iff.mpr ⟨by rw [ha]; exact g1, h1, h2, rfl, nd⟩)
  · have : a ≠ w := fun z => by rw [z, (there w hw).1] at e; cases e
    rw [upd_ne this]; exact E.sub a u e
  · have : a ≠ w := fun z => hn (by rw [g4, z]; exact hw)
    rw [upd_ne this]; exact e
  · rcases hf a ha with z | ⟨z, u, q1, q2⟩
    · exact ⟨.inl (by rw [g4]; exact z), there a z⟩
    · refine ⟨.inr z, z.s, ?_⟩
      by_cases y : a = w
      · subst y; exact ⟨o, upd_same, ho⟩
      · exact ⟨u, by rw [upd_ne y]; exact q1, q2⟩
theorem ER.ownf (E : ER c B Z H S fp σ env) (hi : env[i]? = some (some (ow k A co))) : HD c.C H S A k ∧ OCA H S A co ∧ A.fp.Nodup ∧ fp i = A.fp ∧ σ[i]? = some (some (.ref A.a)) := by
  obtain ⟨v, e1, e2⟩ := E.slot i _ hi
  obtain ⟨g1, g2, g3, g4, g5⟩ := ow_iff.mp e2
  subst g1
  exact ⟨g2, g3, by rw [← g4]; exact g5, g4, e1⟩
theorem Ad.ne_a (h : A.fp.Nodup) : A.t ≠ A.a ∧ A.m ≠ A.a ∧ A.b ≠ A.a ∧ A.f ≠ A.a ∧ A.o ≠ A.a ∧ A.a ∉ A.bl := by
  simp only [Ad.fp, List.nodup_cons, List.mem_cons, not_or] at h
  obtain ⟨⟨a1, a2, a3, a4, a5, a6⟩, _⟩ := h
  exact ⟨Ne.symm a1, Ne.symm a2, Ne.symm a3, Ne.symm a4, Ne.symm a5, a6⟩
end
/-! ## 17. Statements on one's own state -/
def Co.put (co : Co) : Sel → Pl → PD → Co
  | .t, p, d => { co with t := pt co.t p d }
  | .m, p, d => { co with m := pt co.m p d }
  | _, _, _ => co
/-- e is a part of one's own state -/
def DP (c : Ctx) (env : En) (e : Expr) (A : Ad) (s : Sel) : Prop := ∀ X, c.F X → ∀ B Z H S fp σ, ER c B Z H S fp σ env → ∀ Q : VK, Q (.ref (A.at s)) H → sE X e σ H Q
def selI : Sel → Int
  | .t => 0
  | .m => 1
  | .b => 2
  | .f => 3
  | .o => 4
inductive SelF : Str → Sel → Prop
  | t : SelF "_talks" .t
  | m : SelF "_marks" .m
  | b : SelF "_boxes" .b
  | f : SelF "_finished" .f
  | o : SelF "_owed" .o
section
variable {c : Ctx} {env : En} {N G : List Str} {pos p p2 p' : Pos} {κ : Kt} {a b e i o : Expr} {es : List Expr} {x : Str} {A : Ad} {co : Co} {k : OKd} {s : Sel}
theorem dp_st (ok : COk c) (s : Sel) (hN : c.N = N) (hx : LkO N env x (.ost A co)) {j} {n : Int} (hn : n = selI s) : DP c env (.Subscript (.Name x p) (.Constant (.int n) j p2) pos) A s := by
  intro X hX B Z H S fp σ E Q q
  obtain ⟨i, v, h1, h2, h3, h4⟩ := own_var ok (p := p) hN hx hX E
  obtain ⟨g1, g2, g3, g4, g5⟩ := (ow_iff (k := .st)).mp h4
  subst g1 hn
  refine oE (pe_ix ix_list h2 pe_int (by intro _ _; rfl)) ?_
  refine ⟨_, h3, A.a, _, _, .ref (A.at s), rfl, rfl, Or.inl (Or.inl g2), ?_, q⟩
  cases s <;> rfl
theorem dp_lg {f : Str} {tab : List (Str × PD)} {n : Int} (ok : COk c) (ld : LdOk c.K c.C) (hf : SelF f s) (hN : c.N = N) (hx : LkO N env x (.olg A ⟨tab, n, co⟩)) (hb : ∀ X : Cx, attributeBase (.Name x p) f X.env (eval (.Name x p) X.env) = eval (.Name x p) X.env := by intro _; kernel_rfl) : DP c env (.Attribute (.Name x p) f pos) A s := by
  intro X hX B Z H S fp σ E Q q
  obtain ⟨i, v, h1, h2, h3, h4⟩ := own_var ok (p := p) hN hx hX E
  obtain ⟨g1, ⟨dx, tb, g2, _⟩, g3, g4, g5⟩ := (ow_iff (k := .lg tab n)).mp h4
  subst g1
  refine oE (pe_fld h2 (hb X)) ?_
  have hK : X.K = c.K := (ok.eqs X hX).2.2.1
  rw [hK]
  refine ⟨_, h3, A.a, c.C, dx, _, .ref (A.at s), rfl, g2, ld.cl, ld.na f ?_, ?_, q⟩
  · cases hf <;> decide
  · cases hf <;> kernel_rfl
/-- E[i] = e, E the talks or the marks -/
theorem ds_put (ok : COk c) (hN : c.N = N) (k : OKd) (hx : LkO N env x (ow k A co)) (s : Sel) (hs' : s = .t ∨ s = .m) (hp : DP c env o A s)
    (h : DE c env e fun w => ∃ d, w = .d d ∧ DE c env i fun u => ∃ y z : Int, u = .d (.tuple [.int y, .int z]) ∧ co.t.length < 1000000 ∧ co.m.length < 1000000 ∧ ∃ env', Up N env x (ow k A (co.put s (y, z) d)) env' ∧ κ.nx env')
    (hs : ∀ X : Cx, swapsWith e (some (.Subscript o i p')) pos.line X.env = pure false := by intro _; kernel_rfl) : DS c env (.Assign [.Subscript o i p'] e pos) κ := fun X hX B Z H S fp σ E D κ' => by
  obtain ⟨j, j1, j2⟩ := hx.get
  refine oS (ps_dput (ok.hu1 hX) pE pE pE (hs X)) ?_
  refine h X hX B Z H S fp σ E _ fun w v H1 S1 ⟨d, e1, h1⟩ E1 s1 r1 => ?_
  subst e1
  refine hp X hX B Z H1 S1 fp σ E1 _ ?_
  refine h1 X hX B Z H1 S1 fp σ E1 _ fun u v2 H2 S2 ⟨y, z, e2, hl1, hl2, env', u1, hq⟩ E2 s2 r2 => ?_
  subst e2
  obtain ⟨j', g1, g2, rfl⟩ := u1.get
  obtain rfl : j = j' := nodup_ix (by rw [← hN]; exact ok.nd) j1 g1
  obtain ⟨q1, q2, nd, q4, q5⟩ := E2.ownf j2
  obtain ⟨l, xs, rfl, el, r3⟩ := Dt.tup_inv (S := S2) r2
  have hxs : xs = (pk (y, z)).map kV := by
    cases r3 with
    | cons m1 m2 =>
      cases m2 with
      | cons m3 m4 =>
        cases m4
        rw [Dt.int_inv m1, Dt.int_inv m3] <;> rfl
  subst hxs
  have el' := E2.sub _ _ el
  rcases hs' with rfl | rfl
  · obtain ⟨ks, f1, f2⟩ := q2.t
    refine ⟨A.t, _, rfl, DPut.t (k := pk (y, z)) f1 el' (Nat.lt_of_lt_of_le (by rw [f2.len]; exact hl1) (by decide)), ?_⟩
    exact κ'.nx _ _ S2 _ _ hq (E2.own (k' := k) (A' := A) (co' := co.put .t (y, z) d) j2 (w := A.t) (by simp [Ad.fp]) rfl rfl (fun a ha => .inl ha) nd (q1.upd (Ad.ne_a nd).1) (q2.setT nd (f2.put (Rep.mono s2 (w := .d d) r1)))) (s1.trans s2)
  · obtain ⟨ks, f1, f2⟩ := q2.m
    refine ⟨A.m, _, rfl, DPut.t (k := pk (y, z)) f1 el' (Nat.lt_of_lt_of_le (by rw [f2.len]; exact hl2) (by decide)), ?_⟩
    exact κ'.nx _ _ S2 _ _ hq (E2.own (k' := k) (A' := A) (co' := co.put .m (y, z) d) j2 (w := A.m) (by simp [Ad.fp]) rfl rfl (fun a ha => .inl ha) nd (q1.upd (Ad.ne_a nd).2.1) (q2.setM nd (f2.put (Rep.mono s2 (w := .d d) r1)))) (s1.trans s2)
/-- E[i] = a new list, E the mailboxes -/
theorem ds_putB (ok : COk c) (hN : c.N = N) (k : OKd) (hx : LkO N env x (ow k A co)) (hp : DP c env o A .b)
    (h : DF c env e fun ds => DE c env i fun u => ∃ y z : Int, u = .d (.tuple [.int y, .int z]) ∧ co.b.length < 1000000 ∧ ∀ bl, ∃ env', Up N env x (ow k { A with bl := bl } { co with b := pt co.b (y, z) (.list ds) }) env' ∧ κ.nx env')
    (hs : ∀ X : Cx, swapsWith e (some (.Subscript o i p')) pos.line X.env = pure false := by intro _; kernel_rfl) : DS c env (.Assign [.Subscript o i p'] e pos) κ := fun X hX B Z H S fp σ E D κ' => by
  obtain ⟨j, j1, j2⟩ := hx.get
  refine oS (ps_dput (ok.hu1 hX) pE pE pE (hs X)) ?_
  refine h X hX B Z H S fp σ E _ fun ds l vs H1 S1 h1 E1 s1 n1 hl r1 => ?_
  refine hp X hX B Z H1 S1 fp σ E1 _ ?_
  -- the new list is kept while the index is read
  have t1 : Same S1 (upd S1 l (.lst vs)) := same_upd n1.s
  have EB : ER c (upd B l (.lst vs)) (fun a => Z a ∨ a = l) H1 S1 fp σ env := by
    refine ⟨E1.len, E1.sub, fun a u e => ?_, fun a za u e => ?_, fun a za => ?_, E1.slot, fun i a ha => ?_, E1.sep, E1.vis, fun p q hp => ?_⟩
    · by_cases z : a = l
      · subst z; rw [upd_same] at e; cases e; exact hl
      · rw [upd_ne z] at e; exact E1.prot a u e
    · rcases za with za | rfl
      · exact E1.forb a za u e
      · rw [n1.s] at e; cases e
    · rcases za with za | rfl
      · exact E1.zin a za
      · rw [hl]; simp
    · obtain ⟨q1, q2, q3, q4⟩ := E1.out i a ha
      have : a ≠ l := fun z => n1.f i (z ▸ ha)
      exact ⟨q1, by rw [upd_ne this]; exact q2, fun z => z.elim q3 this, q4⟩
    · obtain ⟨q1, q2⟩ := E1.pool p q hp
      refine ⟨q1, fun a ha => ?_⟩
      obtain ⟨y1, y2, y3, y4⟩ := q2 a ha
      have : a ≠ l := by
        obtain ⟨m1, m2⟩ := n1.pl p q hp
        rintro rfl
        rcases ha with z | z
        · exact m1 z
        · exact m2 z
      exact ⟨y1, by rw [upd_ne this]; exact y2, fun z => z.elim y3 this, y4⟩
  refine h1 X hX _ _ H1 S1 fp σ EB _ fun u v2 H2 S2 ⟨y, z, e2, hl1, hq0⟩ E2' s2 r2 => ?_
  have hl2 : H2 l = some (.lst vs) := E2'.prot l _ upd_same
  have nS2 : S2 l = none := by
    cases q : S2 l with
    | none => rfl
    | some o =>
      have q1 := E2'.sub l o q
      rw [hl2] at q1; cases q1
      exact absurd (E2'.forb l (.inr rfl) _ q) Bool.false_ne_true
  have E2 : ER c B Z H2 S2 fp σ env := by
    refine ⟨E2'.len, E2'.sub, fun a u e => ?_, fun a za => E2'.forb a (.inl za), fun a za => E2'.zin a (.inl za), E2'.slot, fun i a ha => ?_, E2'.sep, E2'.vis, fun p q hp => ?_⟩
    · have : a ≠ l := fun z => by rw [z, n1.b] at e; cases e
      exact E2'.prot a u (by rw [upd_ne this]; exact e)
    · obtain ⟨q1, q2, q3, q4⟩ := E2'.out i a ha
      have : a ≠ l := fun z => n1.f i (z ▸ ha)
      rw [upd_ne this] at q2
      exact ⟨q1, q2, fun z => q3 (.inl z), q4⟩
    · obtain ⟨q1, q2⟩ := E2'.pool p q hp
      refine ⟨q1, fun a ha => ?_⟩
      obtain ⟨y1, y2, y3, y4⟩ := q2 a ha
      have : a ≠ l := by
        obtain ⟨m1, m2⟩ := n1.pl p q hp
        rintro rfl
        rcases ha with z | z
        · exact m1 z
        · exact m2 z
      rw [upd_ne this] at y2
      exact ⟨y1, y2, fun z => y3 (.inl z), y4⟩
  subst e2
  obtain ⟨q1, q2, nd, q4, q5⟩ := E2.ownf j2
  obtain ⟨l2, xs, rfl, el, r3⟩ := Dt.tup_inv (S := S2) r2
  have hxs : xs = (pk (y, z)).map kV := by
    cases r3 with
    | cons m1 m2 =>
      cases m2 with
      | cons m3 m4 =>
        cases m4
        rw [Dt.int_inv m1, Dt.int_inv m3] <;> rfl
  subst hxs
  have el' := E2.sub _ _ el
  have hlf : l ∉ A.fp := fun h => n1.f j (by rw [q4]; exact h)
  obtain ⟨ks, as', f1, f2, f3, f4, f5⟩ := q2.newB (p := (y, z)) nd hl2 hlf (DtAll.mono s2 _ _ r1)
  refine ⟨A.b, _, rfl, DPut.t (k := pk (y, z)) f1 el' (Nat.lt_of_lt_of_le (by rw [f2]; exact hl1) (by decide)), ?_⟩
  obtain ⟨env', u1, hq⟩ := hq0 as'
  obtain ⟨j', g1, g2, rfl⟩ := u1.get
  obtain rfl : j = j' := nodup_ix (by rw [← hN]; exact ok.nd) j1 g1
  have q1' : HD c.C (upd H2 A.b (.dT (putK ks (pk (y, z)) (.ref l)))) S2 { A with bl := as' } k := by
    have := q1.upd (o := .dT (putK ks (pk (y, z)) (.ref l))) (Ad.ne_a nd).2.2.1
    cases k <;> exact this
  refine κ'.nx _ _ S2 _ _ hq (E2.own (k' := k) (A' := { A with bl := as' }) j2 (w := A.b) (by simp [Ad.fp]) rfl rfl (fun a ha => ?_) f4 q1' f5) (s1.trans s2)
  simp only [Ad.fp, List.mem_cons] at ha ⊢
  rcases ha with z | z | z | z | z | z | z
  · exact .inl (.inl z)
  · exact .inl (.inr (.inl z))
  · exact .inl (.inr (.inr (.inl z)))
  · exact .inl (.inr (.inr (.inr (.inl z))))
  · exact .inl (.inr (.inr (.inr (.inr (.inl z)))))
  · exact .inl (.inr (.inr (.inr (.inr (.inr (.inl z))))))
  · rcases f3 a z with z | z
    · exact .inl (.inr (.inr (.inr (.inr (.inr (.inr z))))))
    · subst z
      exact .inr ⟨⟨nS2, n1.b, n1.z, n1.f, n1.pl⟩, _, hl2, rfl⟩
/-- E.append(e), E the finished actors or the owed sides -/
def Co.app (co : Co) : Sel → PD → Co
  | .f, d => { co with f := co.f ++ [d] }
  | .o, d => { co with o := co.o ++ [d] }
  | _, _ => co
theorem ds_appC {p1 p2 p3 : Pos} (ok : COk c) (hN : c.N = N) (k : OKd) (hx : LkO N env x (ow k A co)) (s : Sel) (hs' : s = .f ∨ s = .o) (hp : DP c env o A s)
    (h : DE c env e fun w => ∃ d, w = .d d ∧ co.f.length < 1000000 ∧ co.o.length < 1000000 ∧ ∃ env', Up N env x (ow k A (co.app s d)) env' ∧ κ.nx env')
    (hs : ∀ X : Cx, ∀ t u, PE X e t → PE X o u → PE X (.Call (.Attribute o "append" p2) [e] [] p3) (tBM X.K "list" rAppend u (tCons t tNil)) := by intro _ _ _ h g; exact pe_bm PySem.F.plainAttrs_list PySem.F.slot_list_append PySem.F.type_list_append mt_append g (pa_cons h pa_nil))
    (he : ∀ X : Cx, ∀ t, PE X (.Call (.Attribute o "append" p2) [e] [] p3) t → PS X (.Expr (.Call (.Attribute o "append" p2) [e] [] p3) pos) (tDrop t) := by intro _ _ h; exact ps_expr h) :
    DS c env (.Expr (.Call (.Attribute o "append" p2) [e] [] p3) pos) κ := fun X hX B Z H S fp σ E D κ' => by
  refine oS (he X _ (hs X _ _ pE pE)) ?_
  obtain ⟨j, j1, j2⟩ := hx.get
  obtain ⟨q1, q2, nd, q4, q5⟩ := E.ownf j2
  refine hp X hX B Z H S fp σ E _ ?_
  have tl : ∃ vs, H (A.at s) = some (.lst vs) := by
    rcases hs' with rfl | rfl
    · obtain ⟨vs, e, _⟩ := q2.f; exact ⟨vs, e⟩
    · obtain ⟨vs, e, _⟩ := q2.o; exact ⟨vs, e⟩
  obtain ⟨vs0, ev0⟩ := tl
  refine ⟨.inl ⟨rfl, _, Or.inl (Or.inl ev0)⟩, ?_⟩
  refine h X hX B Z H S fp σ E _ fun w y H1 S1 ⟨d, e1, hz1, hz2, env', u, hq⟩ E1 s1 r1 => ?_
  subst e1
  obtain ⟨j', g1, g2, rfl⟩ := u.get
  obtain rfl : j = j' := nodup_ix (by rw [← hN]; exact ok.nd) j1 g1
  obtain ⟨q1, q2, nd, q4, q5⟩ := E1.ownf j2
  rcases hs' with rfl | rfl
  · obtain ⟨vs, e2, r2⟩ := q2.f
    refine ⟨A.f, vs, y, rfl, rfl, e2, Nat.lt_of_lt_of_le (by rw [r2.length]; exact hz1) (by decide), ?_⟩
    exact κ'.nx _ _ S1 _ _ hq (E1.own (k' := k) (A' := A) (co' := co.app .f d) j2 (w := A.f) (by simp [Ad.fp]) rfl rfl (fun a ha => .inl ha) nd (q1.upd (Ad.ne_a nd).2.2.2.1) (q2.setF nd (r2.snoc r1))) s1
  · obtain ⟨vs, e2, r2⟩ := q2.o
    refine ⟨A.o, vs, y, rfl, rfl, e2, Nat.lt_of_lt_of_le (by rw [r2.length]; exact hz2) (by decide), ?_⟩
    exact κ'.nx _ _ S1 _ _ hq (E1.own (k' := k) (A' := A) (co' := co.app .o d) j2 (w := A.o) (by simp [Ad.fp]) rfl rfl (fun a ha => .inl ha) nd (q1.upd (Ad.ne_a nd).2.2.2.2.1) (q2.setO nd (r2.snoc r1))) s1
/-- E[i].append(e), E the mailboxes -/
theorem ds_appB {p1 p2 p3 p4 : Pos} (ok : COk c) (hN : c.N = N) (k : OKd) (hx : LkO N env x (ow k A co)) (hp : DP c env o A .b)
    (h : DE c env i fun u => ∃ y z : Int, u = .d (.tuple [.int y, .int z]) ∧ ∃ ds, lkp co.b (y, z) = some (.list ds) ∧ ∃ envz, Fz env envz ∧ DE c envz e fun w => ∃ d, w = .d d ∧ imm d = true ∧ ds.length < 1000000 ∧ ∃ env', Up N env x (ow k A { co with b := pt co.b (y, z) (.list (ds ++ [d])) }) env' ∧ κ.nx env')
    (hs : ∀ X : Cx, ∀ t u, PE X e t → PE X (.Subscript o i p4) u → PE X (.Call (.Attribute (.Subscript o i p4) "append" p2) [e] [] p3) (tBM X.K "list" rAppend u (tCons t tNil)) := by intro _ _ _ h g; exact pe_bm PySem.F.plainAttrs_list PySem.F.slot_list_append PySem.F.type_list_append mt_append g (pa_cons h pa_nil))
    (he : ∀ X : Cx, ∀ t, PE X (.Call (.Attribute (.Subscript o i p4) "append" p2) [e] [] p3) t → PS X (.Expr (.Call (.Attribute (.Subscript o i p4) "append" p2) [e] [] p3) pos) (tDrop t) := by intro _ _ h; exact ps_expr h) (hb : ∀ X : Cx, PlainIx i := by intro _ _ _; kernel_rfl) :
    DS c env (.Expr (.Call (.Attribute (.Subscript o i p4) "append" p2) [e] [] p3) pos) κ := fun X hX B Z H S fp σ E D κ' => by
  refine oS (he X _ (hs X _ _ pE (pe_ix dict_sub pE pE (hb X)))) ?_
  obtain ⟨j, j1, j2⟩ := hx.get
  refine hp X hX B Z H S fp σ E _ ?_
  refine h X hX B Z H S fp σ E _ fun u v2 H2 S2 ⟨y, z, e2, ds, hd, h2⟩ E2 s2 r2 => ?_
  subst e2
  obtain ⟨q1, q2, nd, q4, q5⟩ := E2.ownf j2
  obtain ⟨ks, w, vs, ds', f1, _, f2, f3, f4, f5, f6, _⟩ := q2.chgB nd hd
  obtain ⟨l2, xs, rfl, el, r3⟩ := Dt.tup_inv (S := S2) r2
  have hxs : xs = (pk (y, z)).map kV := by
    cases r3 with
    | cons m1 m2 =>
      cases m2 with
      | cons m3 m4 =>
        cases m4
        rw [Dt.int_inv m1, Dt.int_inv m3] <;> rfl
  subst hxs
  have g := DGet.t (k := pk (y, z)) f1 (E2.sub _ _ el)
  rw [f3] at g
  refine ⟨A.b, .ref w, rfl, ok.hu1 hX, g, ?_⟩
  refine ⟨.inl ⟨rfl, _, Or.inl (Or.inl f4)⟩, ?_⟩
  obtain ⟨envz, fz, h2⟩ := h2
  refine h2 X hX B Z H2 _ _ σ (E2.frz fz) _ fun w3 v3 H3 S3 ⟨d, e3, hi, hz, env', u1, hq⟩ E3' s3 r3 => ?_
  subst e3
  obtain ⟨E3, s3'⟩ := E2.unfrz E3' s3
  replace r3 : Dt (minusS S3 fp) v3 d := Dt.imm (E2.minus_tups E3' s3) d v3 hi r3
  have keep : ∀ a ∈ A.fp, H3 a = H2 a := fun a ha => by
    obtain ⟨_, _, _, u, hu, _⟩ := E2.out j a (by rw [q4]; exact ha)
    rw [hu]
    exact E3'.sub a u (s3 a u (by rw [plus_own (i := j) (by rw [q4]; exact ha)]; exact hu))
  obtain ⟨j', g1, g2, rfl⟩ := u1.get
  obtain rfl : j = j' := nodup_ix (by rw [← hN]; exact ok.nd) j1 g1
  obtain ⟨t1, t2, nd3, t4, t5⟩ := E3.ownf j2
  -- the place of the mailbox has stayed
  obtain ⟨ks', w', vs', ds'', y1, _, y2, y3, y4, y5, y6, y7⟩ := t2.chgB nd3 hd
  cases y5
  have eb := keep A.b (by simp [Ad.fp])
  rw [f1, y1] at eb
  cases eb
  rw [f3] at y3
  cases y3
  refine ⟨w, vs', v3, rfl, rfl, y4, Nat.lt_of_lt_of_le (by rw [y6.length]; exact hz) (by decide), ?_⟩
  have hwf : w ∈ A.fp := by simp only [Ad.fp, List.mem_cons]; exact .inr (.inr (.inr (.inr (.inr (.inr y2)))))
  exact κ'.nx _ _ _ _ _ hq (E3.own (k' := k) (A' := A) j2 (w := w) hwf rfl rfl (fun a ha => .inl ha) nd3 (t1.upd fun z => (Ad.ne_a nd3).2.2.2.2.2 (z ▸ y2)) (y7 _ _ (y6.snoc r3))) (s2.trans s3')
/-- E[i] = e, E the finished actors -/
theorem ds_setF (ok : COk c) (hN : c.N = N) (k : OKd) (hx : LkO N env x (ow k A co)) (hp : DP c env o A .f)
    (h : DE c env e fun w => ∃ d, w = .d d ∧ DE c env i fun u => ∃ (n : Int) (j : Nat), u = .d (.int n) ∧ ixN co.f.length n = some j ∧ ∃ env', Up N env x (ow k A { co with f := co.f.set j d }) env' ∧ κ.nx env')
    (hs : ∀ X : Cx, swapsWithSole [.Subscript o i p'] e pos.line X.env = pure false := by intro _; kernel_rfl) (hw : ∀ X : Cx, swappedStores [.Subscript o i p'] e X.env = pure none := by intro _; kernel_rfl) (h1 : ∀ X : Cx, (assignEach [.Subscript o i p'] X.env).map (·.2) = [assign (.Subscript o i p') X.env] := by intro _; kernel_rfl)
    (ha : ∀ X : Cx, ∀ v, assign (.Subscript o i p') X.env v = (do
      let ov ← holding [v] (eval o X.env)
      let iv ← holding [v, ov] (eval i X.env)
      standAt p'
      holding [v, ov, iv] (setItem ov iv v)
      release [v, ov, iv] []) := by intro _ _; kernel_rfl) : DS c env (.Assign [.Subscript o i p'] e pos) κ := fun X hX B Z H S fp σ E D κ' => by
  refine oS (ps_asg pE (pg_sub pE pE set_list (ha X)) (hs X) (hw X) (h1 := h1 X)) ?_
  obtain ⟨j, j1, j2⟩ := hx.get
  refine h X hX B Z H S fp σ E _ fun w y H1 S1 ⟨d, e1, h1⟩ E1 s1 r1 => ?_
  subst e1
  refine hp X hX B Z H1 S1 fp σ E1 _ ?_
  refine h1 X hX B Z H1 S1 fp σ E1 _ fun u v2 H2 S2 ⟨n, m, e2, hm, env', u1, hq⟩ E2 s2 r2 => ?_
  subst e2
  obtain rfl := Dt.int_inv (S := S2) r2
  obtain ⟨j', g1, g2, rfl⟩ := u1.get
  obtain rfl : j = j' := nodup_ix (by rw [← hN]; exact ok.nd) j1 g1
  obtain ⟨q1, q2, nd, q4, q5⟩ := E2.ownf j2
  obtain ⟨vs, f1, f2⟩ := q2.f
  refine ⟨A.f, vs, n, m, rfl, rfl, f1, by rw [f2.length]; exact hm, ?_⟩
  exact κ'.nx _ _ S2 _ _ hq (E2.own (k' := k) (A' := A) j2 (w := A.f) (by simp [Ad.fp]) rfl rfl (fun a ha => .inl ha) nd (q1.upd (Ad.ne_a nd).2.2.2.1) (q2.setF nd (f2.set (Rep.mono s2 (w := .d d) r1) m))) (s1.trans s2)
theorem newO_hf {B : Hp} {Z : Addr → Prop} {S H : Hp} {fp : Nat → List Addr} {l : Addr} {vs : List V} (n : Lone c B Z S fp l) (hl : H l = some (.lst vs)) : ∀ a ∈ ({ A with o := l } : Ad).fp, a ∈ A.fp ∨ (Lone c B Z S fp a ∧ ∃ o, H a = some o ∧ isTup o = false) := fun a ha => by
  simp only [Ad.fp, List.mem_cons] at ha ⊢
  rcases ha with z | z | z | z | z | z | z
  · exact .inl (.inl z)
  · exact .inl (.inr (.inl z))
  · exact .inl (.inr (.inr (.inl z)))
  · exact .inl (.inr (.inr (.inr (.inl z))))
  · exact .inl (.inr (.inr (.inr (.inr (.inl z)))))
  · subst z; exact .inr ⟨n, _, hl, rfl⟩
  · exact .inl (.inr (.inr (.inr (.inr (.inr (.inr z))))))
theorem newO_nd {l : Addr} (nd : A.fp.Nodup) (h : l ∉ A.fp) : ({ A with o := l } : Ad).fp.Nodup := by
  obtain ⟨a, t, m, b, f, o, bl⟩ := A
  simp only [Ad.fp, List.nodup_cons, List.mem_cons, not_or] at nd h ⊢
  obtain ⟨⟨a1, a2, a3, a4, a5, a6⟩, ⟨t1, t2, t3, t4, n1⟩, ⟨m1, m2, m3, n2⟩, ⟨b1, b2, n3⟩, ⟨f1, n4⟩, n5, n6⟩ := nd
  obtain ⟨l0, l1, l2, l3, l4, l5, l6⟩ := h
  exact ⟨⟨a1, a2, a3, a4, Ne.symm l0, a6⟩, ⟨t1, t2, t3, Ne.symm l1, n1⟩, ⟨m1, m2, Ne.symm l2, n2⟩, ⟨b1, Ne.symm l3, n3⟩, ⟨Ne.symm l4, n4⟩, l6, n6⟩
/-- state[4] = a new list -/
theorem ds_setO {j} (ok : COk c) (hN : c.N = N) (hx : LkO N env x (.ost A co))
    (h : DF c env e fun ds => ∀ l, ∃ env', Up N env x (.ost { A with o := l } { co with o := ds }) env' ∧ κ.nx env')
    (hs : ∀ X : Cx, swapsWithSole [.Subscript (.Name x p) (.Constant (.int 4) j p2) p'] e pos.line X.env = pure false := by intro _; kernel_rfl) (hw : ∀ X : Cx, swappedStores [.Subscript (.Name x p) (.Constant (.int 4) j p2) p'] e X.env = pure none := by intro _; kernel_rfl) (h1 : ∀ X : Cx, (assignEach [.Subscript (.Name x p) (.Constant (.int 4) j p2) p'] X.env).map (·.2) = [assign (.Subscript (.Name x p) (.Constant (.int 4) j p2) p') X.env] := by intro _; kernel_rfl)
    (ha : ∀ X : Cx, ∀ v, assign (.Subscript (.Name x p) (.Constant (.int 4) j p2) p') X.env v = (do
      let ov ← holding [v] (eval (.Name x p) X.env)
      let iv ← holding [v, ov] (eval (.Constant (.int 4) j p2) X.env)
      standAt p'
      holding [v, ov, iv] (setItem ov iv v)
      release [v, ov, iv] []) := by intro _ _; kernel_rfl) : DS c env (.Assign [.Subscript (.Name x p) (.Constant (.int 4) j p2) p'] e pos) κ := fun X hX B Z H S fp σ E D κ' => by
  obtain ⟨i, i1, i2⟩ := hx.get
  have vv := E.vis i _ x i2 (by rw [hN]; exact i1)
  refine oS (ps_asg pE (pg_sub (ok.pvar hX (p := p) (by rw [hN]; exact i1) vv) pe_int set_list (ha X)) (hs X) (hw X) (h1 := h1 X)) ?_
  refine h X hX B Z H S fp σ E _ fun ds l vs H1 S1 h1 E1 s1 n1 hl r1 => ?_
  obtain ⟨q1, q2, nd, q4, q5⟩ := E1.ownf (k := .st) i2
  obtain ⟨env', u1, hq⟩ := h1 l
  obtain ⟨i', g1, g2, rfl⟩ := u1.get
  obtain rfl : i = i' := nodup_ix (by rw [← hN]; exact ok.nd) i1 g1
  have hlf : l ∉ A.fp := fun h => n1.f i (by rw [q4]; exact h)
  refine ⟨_, q5, A.a, _, 4, 4, rfl, rfl, q1, rfl, ?_⟩
  refine κ'.nx _ _ S1 _ _ hq (E1.own (k := .st) (k' := .st) (A' := { A with o := l }) i2 (w := A.a) (by simp [Ad.fp]) rfl rfl (newO_hf n1 hl) (newO_nd nd hlf) upd_same ?_) s1
  have ne : l ≠ A.a := fun z => hlf (by rw [z]; simp [Ad.fp])
  have off : ∀ {y : Addr}, y ≠ A.a → upd H1 A.a (HO.lst ([V.ref A.t, .ref A.m, .ref A.b, .ref A.f, .ref A.o].set 4 (.ref l))) y = H1 y := fun h => upd_ne h
  obtain ⟨⟨k1, e1, r1'⟩, ⟨k2, e2, r2⟩, ⟨k3, e3, r3, r3n⟩, ⟨k4, e4, r4⟩, _⟩ := q2
  obtain ⟨m1, m2, m3, m4, m5, m6⟩ := Ad.ne_a nd
  exact ⟨⟨k1, (off m1).trans e1, r1'⟩, ⟨k2, (off m2).trans e2, r2⟩, ⟨k3, (off m3).trans e3, KvB.stay (Same.refl S1) (fun x hx => off fun e => m6 (by rw [← e]; exact hx)) r3, r3n⟩, ⟨k4, (off m4).trans e4, r4⟩, vs, (off ne).trans hl, r1⟩
/-- self._owed = a new list; self._opened = a number -/
theorem ds_fldO {tab : List (Str × PD)} {n : Int} (ok : COk c) (ld : LdOk c.K c.C) (hN : c.N = N) (hx : LkO N env x (.olg A ⟨tab, n, co⟩))
    (h : DF c env e fun ds => ∀ l, ∃ env', Up N env x (.olg { A with o := l } ⟨tab, n, { co with o := ds }⟩) env' ∧ κ.nx env')
    (hs : ∀ X : Cx, swapsWith e (some (.Attribute (.Name x p) "_owed" p')) pos.line X.env = pure false := by intro _; kernel_rfl) : DS c env (.Assign [.Attribute (.Name x p) "_owed" p'] e pos) κ := fun X hX B Z H S fp σ E D κ' => by
  obtain ⟨i, i1, i2⟩ := hx.get
  have vv := E.vis i _ x i2 (by rw [hN]; exact i1)
  have hK : X.K = c.K := (ok.eqs X hX).2.2.1
  refine oS (ps_fld (ok.pvar hX (p := p) (by rw [hN]; exact i1) vv) pE (hs X)) ?_
  refine h X hX B Z H S fp σ E _ fun ds l vs H1 S1 h1 E1 s1 n1 hl r1 => ?_
  obtain ⟨⟨dx, tb, q1, qt⟩, q2, nd, q4, q5⟩ := E1.ownf (k := .lg tab n) i2
  obtain ⟨env', u1, hq⟩ := h1 l
  obtain ⟨i', g1, g2, rfl⟩ := u1.get
  obtain rfl : i = i' := nodup_ix (by rw [← hN]; exact ok.nd) i1 g1
  have hlf : l ∉ A.fp := fun h => n1.f i (by rw [q4]; exact h)
  rw [hK]
  refine ⟨_, q5, A.a, c.C, dx, _, rfl, q1, ld.cl, ld.na _ (by decide), (by decide : 7 < 1000), ?_⟩
  have ep : putF ("_owed" : Str) (V.ref l) (ledF tb (.ref A.t) (.ref A.m) (.ref A.b) n (.ref A.f) (.ref A.o)) = ledF tb (.ref A.t) (.ref A.m) (.ref A.b) n (.ref A.f) (.ref l) := by kernel_rfl
  rw [ep]
  refine κ'.nx _ _ S1 _ _ hq (E1.own (k := .lg tab n) (k' := .lg tab n) (A' := { A with o := l }) i2 (w := A.a) (by simp [Ad.fp]) rfl rfl (newO_hf n1 hl) (newO_nd nd hlf) ⟨dx, tb, upd_same, qt⟩ ?_) s1
  have ne : l ≠ A.a := fun z => hlf (by rw [z]; simp [Ad.fp])
  have off : ∀ {y : Addr}, y ≠ A.a → upd H1 A.a (HO.ins c.C dx (ledF tb (.ref A.t) (.ref A.m) (.ref A.b) n (.ref A.f) (.ref l))) y = H1 y := fun h => upd_ne h
  obtain ⟨⟨k1, e1, r1'⟩, ⟨k2, e2, r2⟩, ⟨k3, e3, r3, r3n⟩, ⟨k4, e4, r4⟩, _⟩ := q2
  obtain ⟨m1, m2, m3, m4, m5, m6⟩ := Ad.ne_a nd
  exact ⟨⟨k1, (off m1).trans e1, r1'⟩, ⟨k2, (off m2).trans e2, r2⟩, ⟨k3, (off m3).trans e3, KvB.stay (Same.refl S1) (fun x hx => off fun e => m6 (by rw [← e]; exact hx)) r3, r3n⟩, ⟨k4, (off m4).trans e4, r4⟩, vs, (off ne).trans hl, r1⟩
theorem ds_fldN {tab : List (Str × PD)} {n : Int} (ok : COk c) (ld : LdOk c.K c.C) (hN : c.N = N) (hx : LkO N env x (.olg A ⟨tab, n, co⟩))
    (h : DE c env e fun w => ∃ m : Int, w = .d (.int m) ∧ ∃ env', Up N env x (.olg A ⟨tab, m, co⟩) env' ∧ κ.nx env')
    (hs : ∀ X : Cx, swapsWith e (some (.Attribute (.Name x p) "_opened" p')) pos.line X.env = pure false := by intro _; kernel_rfl) : DS c env (.Assign [.Attribute (.Name x p) "_opened" p'] e pos) κ := fun X hX B Z H S fp σ E D κ' => by
  obtain ⟨i, i1, i2⟩ := hx.get
  have vv := E.vis i _ x i2 (by rw [hN]; exact i1)
  have hK : X.K = c.K := (ok.eqs X hX).2.2.1
  refine oS (ps_fld (ok.pvar hX (p := p) (by rw [hN]; exact i1) vv) pE (hs X)) ?_
  refine h X hX B Z H S fp σ E _ fun w v H1 S1 ⟨m, e1, env', u1, hq⟩ E1 s1 r1 => ?_
  subst e1
  obtain rfl := Dt.int_inv (S := S1) r1
  obtain ⟨⟨dx, tb, q1, qt⟩, q2, nd, q4, q5⟩ := E1.ownf (k := .lg tab n) i2
  obtain ⟨i', g1, g2, rfl⟩ := u1.get
  obtain rfl : i = i' := nodup_ix (by rw [← hN]; exact ok.nd) i1 g1
  rw [hK]
  refine ⟨_, q5, A.a, c.C, dx, _, rfl, q1, ld.cl, ld.na _ (by decide), (by decide : 7 < 1000), ?_⟩
  have ep : putF ("_opened" : Str) (V.int m) (ledF tb (.ref A.t) (.ref A.m) (.ref A.b) n (.ref A.f) (.ref A.o)) = ledF tb (.ref A.t) (.ref A.m) (.ref A.b) m (.ref A.f) (.ref A.o) := by kernel_rfl
  rw [ep]
  refine κ'.nx _ _ S1 _ _ hq (E1.own (k := .lg tab n) (k' := .lg tab m) (A' := A) i2 (w := A.a) (by simp [Ad.fp]) rfl rfl (fun a ha => .inl ha) nd ⟨dx, tb, upd_same, qt⟩ ?_) s1
  have off : ∀ {y : Addr}, y ≠ A.a → upd H1 A.a (HO.ins c.C dx (ledF tb (.ref A.t) (.ref A.m) (.ref A.b) m (.ref A.f) (.ref A.o))) y = H1 y := fun h => upd_ne h
  obtain ⟨⟨k1, e1, r1'⟩, ⟨k2, e2, r2⟩, ⟨k3, e3, r3, r3n⟩, ⟨k4, e4, r4⟩, k5, e5, r5⟩ := q2
  obtain ⟨m1, m2, m3, m4, m5, m6⟩ := Ad.ne_a nd
  exact ⟨⟨k1, (off m1).trans e1, r1'⟩, ⟨k2, (off m2).trans e2, r2⟩, ⟨k3, (off m3).trans e3, KvB.stay (Same.refl S1) (fun x hx => off fun e => m6 (by rw [← e]; exact hx)) r3, r3n⟩, ⟨k4, (off m4).trans e4, r4⟩, k5, (off m5).trans e5, r5⟩
end
/-! ## 18. Contracts with the pool, with one's own state -/
section
variable {P : Program} {w : World} {K : PySem.W.Frag} {mg : Str → Option Value} {base : Heap} {x qual : Str} {st : Stmt} {f : Addr} {fd : FuncData} {N ps Ls G : List Str} {k : Nat} {C : Addr}
/-- before the body of a def: what its frame says of the heap -/
theorem start_out {c : Ctx} {H R H' S' : Hp} {fp : Nat → List Addr} {σ : L2.St} {env : En} {B : Hp} {Z : Addr → Prop} (hZ : ∀ a, H a ≠ none → R a = none → Z a ∨ ∀ o, S' a = some o → isTup o = true) (E' : ER c B Z H' S' fp σ env) (s' : Same R S') : Out H R H' S' :=
  ⟨s', E'.sub, fun a o e h => by
    by_cases hh : H a = none
    · exact .inl hh
    · rcases hZ a hh h with z | z
      · exact .inr (E'.forb a z o e)
      · exact .inr (z o e)⟩
/-- the pool's places are kept out -/
def noP (H : Hp) (p q : Addr) : Hp := fun a => open Classical in if a = p ∨ a = q then none else H a
theorem noP_in {H : Hp} {p q a : Addr} (h : a = p ∨ a = q) : noP H p q a = none := if_pos h
theorem noP_out {H : Hp} {p q a : Addr} (h : ¬ (a = p ∨ a = q)) : noP H p q a = H a := if_neg h
theorem poolER {CX : CXT} {cdv : Value} {A : Around} {outer : List Env} {s : Shared} {H R : Hp} {E : XK} {p q : Addr} {vs : List V} {ws : List W} {n : Nat} (S : FnScope N ps (defScope st)) (hp : (ps.all fun y => decide (y ∈ Ls)) = true) (hn : ps.length + n = N.length) (hv : (V.ref p :: vs).length = ps.length) (hP : PoolAt H p q) (rp : R p = none) (rq : R q = none) (s0 : Same R H) (r : Reps C R vs ws) :
    ER (ctxOf (cxOf CX P w K mg base N qual (defScope st) f cdv A outer s H E).nox k N Ls G C (some (p, q))) (noP H p q) (fun a => H a ≠ none ∧ R a = none ∧ ¬ (a = p ∨ a = q)) H R (fun _ => []) (L2.start N (.ref p :: vs)) (some .pool :: envO ws n) := by
  have hw : ws.length = vs.length := (Paired.length r).symm
  refine ⟨?_, s0, fun a o e => ?_, fun a za o e => (by rw [za.2.1] at e; cases e), fun a za => za.1, fun i t e => ?_, fun i a h => (by simp at h), fun i j a h => (by simp at h), fun i t y e h => ?_, fun p' q' h => ?_⟩
  · rw [start_len (by omega), List.length_cons, envO_len, hw]
    simp only [List.length_cons] at hv
    omega
  · by_cases h : a = p ∨ a = q
    · rw [noP_in h] at e; cases e
    · rw [noP_out h] at e; exact e
  · cases i with
    | zero =>
      simp at e
      subst e
      exact ⟨_, start_get rfl, p, q, rfl, rfl⟩
    | succ i =>
      obtain ⟨_, v, u, rfl, h2, h3⟩ := envO_get n r i t (by simpa using e)
      exact ⟨v, start_get (by simpa using h2), h3⟩
  · cases i with
    | zero => exact vis_at S.pre hp (by rw [← hv]; simp) h
    | succ i =>
      obtain ⟨h1, _⟩ := envO_get n r i t (by simpa using e)
      exact vis_at S.pre hp (by rw [← hv, List.length_cons, ← hw]; omega) h
  · cases h
    exact ⟨hP, fun a ha => ⟨by rcases ha with rfl | rfl <;> assumption, noP_in ha, fun z => z.2.2 ha, fun i => by simp⟩⟩
theorem fx_DP {α : Type} {ar : α → List W} {po : α → W → Prop} (F : FunD K x qual (defArgs st) (defBody st) (defScope st) [] [] f fd) (S : FnScope N ps (defScope st)) (hL : (Ls.all (locB (defScope st))) = true) (hG : (G.all (gloB (defScope st))) = true)
    (hp : (ps.all fun y => decide (y ∈ Ls)) = true) (n : Nat) (hn : ps.length + n = N.length) (har : ∀ z, (ar z).length + 1 = ps.length)
    (hb : ∀ (kV doc pm : Value) (an : Option Addr) (cdv ct : Value) (us : List Value), us.length = ps.length → bindArgs (PySem.W.fnOf x qual (defArgs st) (defBody st) (defScope st) .none kV doc pm an cdv ct) ⟨us, []⟩ = pure (ps.zip us))
    (body : ∀ c pl, CIs c P w K mg base k N Ls G C pl (defScope st) → ∀ z, DSs c (some .pool :: envO (ar z) n) (defBody st) ⟨fun _ => po z (.d .none), fun r _ => po z r, fun ds _ => po z (.d (.list ds)), fun _ => False, fun _ => False⟩) :
    FnX P w K mg base (k + 1) (SpDP C ar po) f := by
  refine ⟨fd, ps, F.ok S (fun vs H Q E h => ?_) (fun cdv A outer s H vs Q E hr h => ?_), F.bindsN hb⟩
  · obtain ⟨z, R, p, q, us, rfl, _, _, _, _, r, _⟩ := h
    rw [List.length_cons, Paired.length r, har z]
  · obtain ⟨z, R, p, q, us, rfl, hP, rp, rq, s0, r, hq⟩ := h
    have hv : (V.ref p :: us).length = ps.length := by rw [List.length_cons, Paired.length r, har z]
    have I := ctx_is (CX := CX0) (P := P) (w := w) (K := K) (mg := mg) (base := base) (C := C) (cdv := cdv) (outer := outer) (H := H) (E := E) S hL hG (some (p, q)) hr
    have nw : ∀ {S' H' : Hp} {fp : Nat → List Addr} {σ : L2.St} {env : En}, ER (ctxOf (cxOf CX0 P w K mg base N qual (defScope st) f cdv A outer s H E).nox k N Ls G C (some (p, q))) (noP H p q) (fun a => H a ≠ none ∧ R a = none ∧ ¬ (a = p ∨ a = q)) H' S' fp σ env → Same R S' → KeepP p q H H' ∧ PoolAt H' p q ∧ Out H R H' S' := fun {S' H' fp σ env} E' s' => by
      obtain ⟨g1, g2⟩ := E'.pool p q rfl
      refine ⟨fun a o e h1 h2 => E'.prot a o (by rw [noP_out (by simp [h1, h2])]; exact e), g1, start_out (fun a h1 h2 => ?_) E' s'⟩
      by_cases h : a = p ∨ a = q
      · exact .inr fun o e => by rw [(g2 a h).1] at e; cases e
      · exact .inl ⟨h1, h2, h⟩
    refine ⟨_, PSs.nox pSs, body _ _ I z _ rfl _ _ H R (fun _ => []) (L2.start N (.ref p :: us)) (poolER S hp hn hv hP rp rq s0 r) _ ?_⟩
    refine ⟨fun env H' S' fp σ hq' E' s' => ?_, fun u v env H' S' fp σ hq' E' s' ru => ?_, fun ds l vs' env H' S' fp σ hq' E' s' n1 n2 n3 n4 hl hd => ?_, fun _ _ _ _ _ h => h.elim, fun _ _ _ _ _ h => h.elim⟩
    · obtain ⟨g1, g2, g3⟩ := nw E' s'
      exact hq _ _ _ _ hq' g1 g2 g3 .non
    · obtain ⟨g1, g2, g3⟩ := nw E' s'
      exact hq _ _ _ _ hq' g1 g2 g3 ru
    · obtain ⟨g1, g2, g3⟩ := nw E' s'
      have s1 : Same S' (upd S' l (.lst vs')) := same_upd n1
      refine hq _ _ H' (upd S' l (.lst vs')) hq' g1 g2 ⟨s'.trans s1, fun a o e => ?_, fun a o e h => ?_⟩ (.lst upd_same (DtAll.mono s1 _ _ hd))
      · by_cases hh : a = l
        · subst hh; rw [upd_same] at e; cases e; exact hl
        · rw [upd_ne hh] at e; exact E'.sub a o e
      · by_cases hh : a = l
        · subst hh
          obtain ⟨m1, m2⟩ := n4 p q rfl
          rw [noP_out (by simp [m1, m2])] at n2
          exact .inl n2
        · rw [upd_ne hh] at e; exact g3.new a o e h
theorem fx_FP {α : Type} {ar : α → List W} {po : α → List PD → Prop} (F : FunD K x qual (defArgs st) (defBody st) (defScope st) [] [] f fd) (S : FnScope N ps (defScope st)) (hL : (Ls.all (locB (defScope st))) = true) (hG : (G.all (gloB (defScope st))) = true)
    (hp : (ps.all fun y => decide (y ∈ Ls)) = true) (n : Nat) (hn : ps.length + n = N.length) (har : ∀ z, (ar z).length + 1 = ps.length)
    (hb : ∀ (kV doc pm : Value) (an : Option Addr) (cdv ct : Value) (us : List Value), us.length = ps.length → bindArgs (PySem.W.fnOf x qual (defArgs st) (defBody st) (defScope st) .none kV doc pm an cdv ct) ⟨us, []⟩ = pure (ps.zip us))
    (body : ∀ c pl, CIs c P w K mg base k N Ls G C pl (defScope st) → ∀ z, DSs c (some .pool :: envO (ar z) n) (defBody st) ⟨fun _ => False, fun _ _ => False, fun ds _ => po z ds, fun _ => False, fun _ => False⟩) :
    FnX P w K mg base (k + 1) (SpFP C ar po) f := by
  refine ⟨fd, ps, F.ok S (fun vs H Q E h => ?_) (fun cdv A outer s H vs Q E hr h => ?_), F.bindsN hb⟩
  · obtain ⟨z, R, p, q, us, rfl, _, _, _, _, r, _⟩ := h
    rw [List.length_cons, Paired.length r, har z]
  · obtain ⟨z, R, p, q, us, rfl, hP, rp, rq, s0, r, hq⟩ := h
    have hv : (V.ref p :: us).length = ps.length := by rw [List.length_cons, Paired.length r, har z]
    have I := ctx_is (CX := CX0) (P := P) (w := w) (K := K) (mg := mg) (base := base) (C := C) (cdv := cdv) (outer := outer) (H := H) (E := E) S hL hG (some (p, q)) hr
    refine ⟨_, PSs.nox pSs, body _ _ I z _ rfl _ _ H R (fun _ => []) (L2.start N (.ref p :: us)) (poolER S hp hn hv hP rp rq s0 r) _ ?_⟩
    refine ⟨fun _ _ _ _ _ h => h.elim, fun _ _ _ _ _ _ _ h => h.elim, fun ds l vs' env H' S' fp σ hq' E' s' n1 n2 n3 n4 hl hd => ?_, fun _ _ _ _ _ h => h.elim, fun _ _ _ _ _ h => h.elim⟩
    obtain ⟨g1, g2⟩ := E'.pool p q rfl
    obtain ⟨m1, m2⟩ := n4 p q rfl
    rw [noP_out (by simp [m1, m2])] at n2
    refine hq ds l vs' H' S' hq' (fun a o e h1 h2 => E'.prot a o (by rw [noP_out (by simp [h1, h2])]; exact e)) g1 (start_out (fun a h1 h2 => ?_) E' s') n2 n1 hl hd
    by_cases h : a = p ∨ a = q
    · exact .inr fun o e => by rw [(g2 a h).1] at e; cases e
    · exact .inl ⟨h1, h2, h⟩
end
/-! ### one's own state as an argument -/
structure OwA (C : Addr) (H S : Hp) (A : Ad) (k : OKd) (co : Co) : Prop where
  hd : HD C H S A k
  oc : OCA H S A co
  nd : A.fp.Nodup
  out : ∀ a ∈ A.fp, S a = none ∧ ∃ o, H a = some o ∧ isTup o = false
def SpM {α : Type} (C : Addr) (a1 a2 : α → List W) (sl : α → OKd × Co) (po : α → OKd → Co → Prop) : Sp := fun vs H Q _ => ∃ x S A us1 us2, Same S H ∧ OwA C H S A (sl x).1 (sl x).2 ∧ vs = us1 ++ .ref A.a :: us2 ∧ Reps C S us1 (a1 x) ∧ Reps C S us2 (a2 x) ∧
  ∀ k' co' A' H' S', po x k' co' → A'.a = A.a → (∀ a o, H a = some o → a ∉ A.fp → H' a = some o) → Same S S' → Same S' H' → (∀ a o, S' a = some o → S a = none → H a = none ∨ isTup o = true ∨ a ∈ A.fp) → (∀ a ∈ A'.fp, a ∈ A.fp ∨ H a = none) → OwA C H' S' A' k' co' → Q .non H'
section
variable {P : Program} {w : World} {K : PySem.W.Frag} {mg : Str → Option Value} {base : Heap} {x qual : Str} {st : Stmt} {f : Addr} {fd : FuncData} {N ps Ls G : List Str} {k : Nat} {C : Addr}
def noA (H : Hp) (l : List Addr) : Hp := fun a => open Classical in if a ∈ l then none else H a
theorem noA_in {H : Hp} {l : List Addr} {a : Addr} (h : a ∈ l) : noA H l a = none := if_pos h
theorem noA_out {H : Hp} {l : List Addr} {a : Addr} (h : a ∉ l) : noA H l a = H a := if_neg h
def envM (ws1 : List W) (s : Slot) (ws2 : List W) (n : Nat) : En := match ws1 with
  | [] => some s :: envO ws2 n
  | w :: ws => some (.r w) :: envM ws s ws2 n
theorem envM_len (s : Slot) (ws2 : List W) (n : Nat) : ∀ ws1 : List W, (envM ws1 s ws2 n).length = ws1.length + 1 + ws2.length + n
  | [] => by simp [envM, envO_len]; omega
  | w :: ws => by simp [envM, envM_len s ws2 n ws]; omega
theorem envM_at (s : Slot) (ws2 : List W) (n : Nat) : ∀ ws1 : List W, (envM ws1 s ws2 n)[ws1.length]? = some (some s)
  | [] => rfl
  | w :: ws => by simpa [envM] using envM_at s ws2 n ws
theorem envM_get {C : Addr} {S : Hp} {s : Slot} {u : V} {us2 : List V} {ws2 : List W} (n : Nat) (r2 : Reps C S us2 ws2) : ∀ {us1 : List V} {ws1 : List W}, Reps C S us1 ws1 → ∀ (i : Nat) t, (envM ws1 s ws2 n)[i]? = some (some t) → i < ws1.length + 1 + ws2.length ∧ ((i = ws1.length ∧ t = s ∧ (us1 ++ u :: us2)[i]? = some u) ∨ ∃ v w, i ≠ ws1.length ∧ t = .r w ∧ (us1 ++ u :: us2)[i]? = some v ∧ Rep C S v w)
  | _, _, .nil, 0, t, h => by
    simp [envM] at h
    subst h
    exact ⟨by simp; omega, .inl ⟨rfl, rfl, rfl⟩⟩
  | _, _, .nil, i + 1, t, h => by
    obtain ⟨h1, v, w, h2, h3, h4⟩ := envO_get n r2 i t (by simpa [envM] using h)
    exact ⟨by simp; omega, .inr ⟨v, w, by simp, h2, by simpa using h3, h4⟩⟩
  | v :: _, w :: _, .cons h1 h2, 0, t, h => by
    simp [envM] at h
    subst h
    exact ⟨by simp; omega, .inr ⟨v, w, by simp, rfl, rfl, h1⟩⟩
  | v :: _, w :: _, .cons h1 h2, i + 1, t, h => by
    obtain ⟨g1, g2⟩ := envM_get n r2 (u := u) h2 i t (by simpa [envM] using h)
    refine ⟨by simp; omega, ?_⟩
    rcases g2 with ⟨y1, y2, y3⟩ | ⟨v', w', y1, y2, y3, y4⟩
    · exact .inl ⟨by simp [y1], y2, by simpa using y3⟩
    · exact .inr ⟨v', w', by simp; exact y1, y2, by simpa using y3, y4⟩
/-- what a mutator's body is to reach -/
def endM (p : Nat) (a : Addr) (po : OKd → Co → Prop) : En → Prop := fun env => ∃ k co A, env[p]? = some (some (ow k A co)) ∧ A.a = a ∧ po k co
theorem fx_M {α : Type} {a1 a2 : α → List W} {sl : α → OKd × Co} {po : α → OKd → Co → Prop} (j : Nat) (F : FunD K x qual (defArgs st) (defBody st) (defScope st) [] [] f fd) (S : FnScope N ps (defScope st)) (hL : (Ls.all (locB (defScope st))) = true) (hG : (G.all (gloB (defScope st))) = true)
    (hp : (ps.all fun y => decide (y ∈ Ls)) = true) (n : Nat) (hn : ps.length + n = N.length) (har : ∀ z, (a1 z).length = j ∧ (a1 z).length + 1 + (a2 z).length = ps.length)
    (hb : ∀ (kV doc pm : Value) (an : Option Addr) (cdv ct : Value) (us : List Value), us.length = ps.length → bindArgs (PySem.W.fnOf x qual (defArgs st) (defBody st) (defScope st) .none kV doc pm an cdv ct) ⟨us, []⟩ = pure (ps.zip us))
    (body : ∀ c, CIs c P w K mg base k N Ls G C none (defScope st) → ∀ z A, DSs c (envM (a1 z) (ow (sl z).1 A (sl z).2) (a2 z) n) (defBody st) ⟨endM j A.a (po z), fun r env => r = .d .none ∧ endM j A.a (po z) env, fun _ _ => False, fun _ => False, fun _ => False⟩) :
    FnX P w K mg base (k + 1) (SpM C a1 a2 sl po) f := by
  refine ⟨fd, ps, F.ok S (fun vs H Q E h => ?_) (fun cdv A outer s H vs Q E hr h => ?_), F.bindsN hb⟩
  · obtain ⟨z, R, A, us1, us2, _, _, rfl, r1, r2, _⟩ := h
    rw [List.length_append, List.length_cons, Paired.length r1, Paired.length r2, ← (har z).2]; omega
  · obtain ⟨z, R, Ad0, us1, us2, s0, O, rfl, r1, r2, hq⟩ := h
    have hv : (us1 ++ V.ref Ad0.a :: us2).length = ps.length := by rw [List.length_append, List.length_cons, Paired.length r1, Paired.length r2, ← (har z).2]; omega
    have I := ctx_is (CX := CX0) (P := P) (w := w) (K := K) (mg := mg) (base := base) (C := C) (cdv := cdv) (outer := outer) (H := H) (E := E) S hL hG none hr
    have hj := (har z).1
    refine ⟨_, PSs.nox pSs, body _ I z Ad0 _ rfl (noA H Ad0.fp) (fun a => H a ≠ none ∧ R a = none ∧ a ∉ Ad0.fp) H R (fun i => if i = j then Ad0.fp else []) (L2.start N (us1 ++ V.ref Ad0.a :: us2)) ?_ _ ?_⟩
    · refine ⟨?_, s0, fun a o e => ?_, fun a za o e => (by rw [za.2.1] at e; cases e), fun a za => za.1, fun i t e => ?_, fun i a h => ?_, fun i i' a h h' => ?_, fun i t y e h => ?_, fun p q h => (by cases h)⟩
      · rw [start_len (by omega), envM_len]
        have := (har z).2
        omega
      · by_cases h : a ∈ Ad0.fp
        · rw [noA_in h] at e; cases e
        · rw [noA_out h] at e; exact e
      · obtain ⟨_, g⟩ := envM_get (u := V.ref Ad0.a) n r2 r1 i t e
        rcases g with ⟨y1, y2, y3⟩ | ⟨v', w', y1, y2, y3, y4⟩
        · refine ⟨_, start_get y3, ?_⟩
          rw [y2, if_pos (y1.trans hj)]
          exact ow_iff.mpr ⟨rfl, O.hd, O.oc, rfl, O.nd⟩
        · refine ⟨v', start_get y3, ?_⟩
          rw [y2]
          exact y4
      · by_cases hi : i = j
        · rw [if_pos hi] at h
          obtain ⟨q1, q2⟩ := O.out a h
          exact ⟨q1, noA_in h, fun z => z.2.2 h, q2⟩
        · rw [if_neg hi] at h; simp at h
      · by_cases hi : i = j
        · by_cases hi' : i' = j
          · rw [hi, hi']
          · rw [if_neg hi'] at h'; simp at h'
        · rw [if_neg hi] at h; simp at h
      · obtain ⟨h1, _⟩ := envM_get (u := V.ref Ad0.a) n r2 r1 i t e
        exact vis_at S.pre hp (by have := (har z).2; omega) h
    · have fin : ∀ {S' H' : Hp} {fp : Nat → List Addr} {σ : L2.St} {env : En}, ER (ctxOf (cxOf CX0 P w K mg base N qual (defScope st) f cdv A outer s H E).nox k N Ls G C none) (noA H Ad0.fp) (fun a => H a ≠ none ∧ R a = none ∧ a ∉ Ad0.fp) H' S' fp σ env → Same R S' → endM j Ad0.a (po z) env → Q .non H' := fun {S' H' fp σ env} E' s' ⟨k', co', A', e1, e2, e3⟩ => by
        obtain ⟨q1, q2, q3, q4, q5⟩ := E'.ownf e1
        refine hq k' co' A' H' S' e3 e2 (fun a o e h => E'.prot a o (by rw [noA_out h]; exact e)) s' E'.sub (fun a o e h => ?_) (fun a ha => ?_) ⟨q1, q2, q3, fun a ha => ?_⟩
        · by_cases hh : H a = none
          · exact .inl hh
          · by_cases hf : a ∈ Ad0.fp
            · exact .inr (.inr hf)
            · exact .inr (.inl (E'.forb a ⟨hh, h, hf⟩ o e))
        · have := (E'.out j a (by rw [q4]; exact ha)).2.1
          by_cases hf : a ∈ Ad0.fp
          · exact .inl hf
          · rw [noA_out hf] at this; exact .inr this
        · obtain ⟨y1, _, _, y2⟩ := E'.out j a (by rw [q4]; exact ha)
          exact ⟨y1, y2⟩
      exact ⟨fun env H' S' fp σ hq' E' s' => fin E' s' hq', fun u v env H' S' fp σ hq' E' s' ru => by
        obtain ⟨rfl, hq'⟩ := hq'
        obtain rfl := Dt.non_inv (S := S') ru
        exact fin E' s' hq', fun _ _ _ _ _ _ _ _ h => h.elim, fun _ _ _ _ _ h => h.elim, fun _ _ _ _ _ h => h.elim⟩
end
/-! ## 19. Calls that change one's own state -/
section
variable {c : Ctx} {B : Hp} {Z : Addr → Prop} {H S H' S' : Hp} {fp : Nat → List Addr} {σ : L2.St} {env : En} {i : Nat} {A A' : Ad} {co co' : Co} {k k' : OKd}
theorem ER.mut (E : ER c B Z H S fp σ env) (hi : env[i]? = some (some (ow k A co))) (ha : A'.a = A.a) (keep : ∀ a o, H a = some o → a ∉ A.fp → H' a = some o) (hS : Same S S') (sub : Same S' H') (fr : ∀ a o, S' a = some o → S a = none → H a = none ∨ isTup o = true ∨ a ∈ A.fp)
    (hf : ∀ a ∈ A'.fp, a ∈ A.fp ∨ H a = none) (O : OwA c.C H' S' A' k' co') : ER c B Z H' S' (fun j => if j = i then A'.fp else fp j) σ (env.set i (some (ow k' A' co'))) := by
  obtain ⟨v, e1, e2⟩ := E.slot i _ hi
  obtain ⟨g1, g2, g3, g4, g5⟩ := ow_iff.mp e2
  refine E.chg (s' := ow k' A' co') (l' := A'.fp) e1 ⟨_, hi⟩ hS sub (fun a u e hn => keep a u e (by rw [← g4]; exact hn)) (fun a h => ?_) (fun a u e h => by rw [g4]; exact fr a u e h) (ow_iff.mpr ⟨by rw [ha]; exact g1, O.hd, O.oc, rfl, O.nd⟩)
  obtain ⟨y1, y2⟩ := O.out a h
  rcases hf a h with z | z
  · exact ⟨.inl (by rw [g4]; exact z), y1, y2⟩
  · exact ⟨.inr (E.lone z), y1, y2⟩
theorem ER.owA (E : ER c B Z H S fp σ env) (hi : env[i]? = some (some (ow k A co))) : OwA c.C H S A k co := by
  obtain ⟨q1, q2, q3, q4, q5⟩ := E.ownf hi
  exact ⟨q1, q2, q3, fun a ha => by
    obtain ⟨y1, _, _, y2⟩ := E.out i a (by rw [q4]; exact ha)
    exact ⟨y1, y2⟩⟩
end
section
variable {c : Ctx} {env : En} {N G : List Str} {pos p p1 p2 p' : Pos} {κ : Kt} {e e1 : Expr} {es : List Expr} {x g m : Str} {A : Ad} {co : Co} {k : OKd} {α : Type} {a1 a2 : α → List W} {sl : α → OKd × Co} {po : α → OKd → Co → Prop}
/-- g(x, ..) -/
theorem ds_callM0 (ok : COk c) (hN : c.N = N) (k : OKd) (hx : LkO N env x (ow k A co)) (F : Fn c g (SpM c.C a1 a2 sl po)) (hG : c.G = G) (hg : g ∈ G)
    (h : DA c env es fun ws => ∃ z, a1 z = [] ∧ sl z = (k, co) ∧ a2 z = ws ∧ ∀ k' co' A', po z k' co' → A'.a = A.a → ∃ env', Up N env x (ow k' A' co') env' ∧ κ.nx env')
    (he : ∀ X : Cx, starEach (Expr.Name x p1 :: es) X.env = (false, eval (Expr.Name x p1) X.env) :: starEach es X.env := by intro _; kernel_rfl) (hpl : ∀ X : Cx, (backTo p (starEach es X.env)).any (·.1) = false := by intro _; kernel_rfl)
    (hs : ∀ X : Cx, ∀ t, PE X (.Call (.Name g p2) (.Name x p1 :: es) [] p) t → PS X (.Expr (.Call (.Name g p2) (.Name x p1 :: es) [] p) pos) (tDrop t) := by intro _ _ h; exact ps_expr h) :
    DS c env (.Expr (.Call (.Name g p2) (.Name x p1 :: es) [] p) pos) κ := fun X hX B Z H S fp σ E D κ' => by
  obtain ⟨kk, f, fd, ps, FO, hr, hm, hk, hb⟩ := ok.fn hX F
  obtain ⟨i, v, i2, hv, h3, h4⟩ := own_var ok (p := p1) hN hx hX E
  obtain ⟨i', i1, i2'⟩ := hx.get
  refine oS (hs X _ (pe_call FO hr (ok.gl X hX g (hG ▸ hg)) hm hk hb .nil pass0 (pa_cons hv pA (he X)) (ok.dbgG g (hG ▸ hg)).1 (he X) (hpl X))) ?_
  refine ⟨_, h3, ?_⟩
  obtain ⟨rfl, _⟩ := ow_iff.mp h4
  refine h X hX B Z H S fp σ E _ fun ws vs H1 S1 ⟨z, z1, z2, z3, hz⟩ E1 s1 r1 => ?_
  have O := E1.owA i2
  refine ⟨z, S1, A, [], vs, E1.sub, by rw [z2]; exact O, by rw [List.append_nil]; rfl, by rw [z1]; exact .nil, by rw [z3]; exact r1, fun k' co' A' H2 S2 hp ha keep hS sub fr hf O' => ?_⟩
  obtain ⟨env', u, hq⟩ := hz k' co' A' hp ha
  obtain ⟨j, j1, j2, rfl⟩ := u.get
  obtain rfl : i' = j := nodup_ix (by rw [← hN]; exact ok.nd) i1 j1
  exact κ'.nx _ H2 S2 _ _ hq (E1.mut i2' ha keep hS sub fr hf O') (s1.trans hS)
/-- g(e1, x, ..) -/
theorem ds_callM1 (ok : COk c) (hN : c.N = N) (k : OKd) (hx : LkO N env x (ow k A co)) (F : Fn c g (SpM c.C a1 a2 sl po)) (hG : c.G = G) (hg : g ∈ G)
    (h : DE c env e1 fun w => DA c env es fun ws => ∃ z, a1 z = [w] ∧ sl z = (k, co) ∧ a2 z = ws ∧ ∀ k' co' A', po z k' co' → A'.a = A.a → ∃ env', Up N env x (ow k' A' co') env' ∧ κ.nx env')
    (he : ∀ X : Cx, starEach (Expr.Name x p1 :: es) X.env = (false, eval (Expr.Name x p1) X.env) :: starEach es X.env := by intro _; kernel_rfl) (he1 : ∀ X : Cx, starEach (e1 :: Expr.Name x p1 :: es) X.env = (false, eval e1 X.env) :: starEach (Expr.Name x p1 :: es) X.env := by intro _; kernel_rfl) (hpl : ∀ X : Cx, (backTo p (starEach (Expr.Name x p1 :: es) X.env)).any (·.1) = false := by intro _; kernel_rfl)
    (hs : ∀ X : Cx, ∀ t, PE X (.Call (.Name g p2) (e1 :: .Name x p1 :: es) [] p) t → PS X (.Expr (.Call (.Name g p2) (e1 :: .Name x p1 :: es) [] p) pos) (tDrop t) := by intro _ _ h; exact ps_expr h) :
    DS c env (.Expr (.Call (.Name g p2) (e1 :: .Name x p1 :: es) [] p) pos) κ := fun X hX B Z H S fp σ E D κ' => by
  obtain ⟨kk, f, fd, ps, FO, hr, hm, hk, hb⟩ := ok.fn hX F
  obtain ⟨i', i1, i2'⟩ := hx.get
  have vv := E.vis i' _ x i2' (by rw [hN]; exact i1)
  refine oS (hs X _ (pe_call FO hr (ok.gl X hX g (hG ▸ hg)) hm hk hb .nil pass0 (pa_cons pE (pa_cons (ok.pvar hX (p := p1) (by rw [hN]; exact i1) vv) pA (he X)) (he1 X)) (ok.dbgG g (hG ▸ hg)).1 (he1 X) (hpl X))) ?_
  refine h X hX B Z H S fp σ E _ fun w v1 H0 S0 h0 E0 s0 r0 => ?_
  obtain ⟨q1, q2, q3, q4, q5⟩ := E0.ownf i2'
  refine ⟨_, q5, ?_⟩
  refine h0 X hX B Z H0 S0 fp σ E0 _ fun ws vs H1 S1 ⟨z, z1, z2, z3, hz⟩ E1 s1 r1 => ?_
  have O := E1.owA i2'
  refine ⟨z, S1, A, [v1], vs, E1.sub, by rw [z2]; exact O, by rw [List.append_nil]; rfl, by rw [z1]; exact .cons (Rep.mono s1 r0) .nil, by rw [z3]; exact r1, fun k' co' A' H2 S2 hp ha keep hS sub fr hf O' => ?_⟩
  obtain ⟨env', u, hq⟩ := hz k' co' A' hp ha
  obtain ⟨j, j1, j2, rfl⟩ := u.get
  obtain rfl : i' = j := nodup_ix (by rw [← hN]; exact ok.nd) i1 j1
  exact κ'.nx _ H2 S2 _ _ hq (E1.mut i2' ha keep hS sub fr hf O') ((s0.trans s1).trans hS)
/-- x.m(..) -/
theorem ds_methM {tab : List (Str × PD)} {n : Int} {apos : Pos} (ok : COk c) (ld : LdOk c.K c.C) (hN : c.N = N) (hx : LkO N env x (.olg A ⟨tab, n, co⟩)) (F : Me c m (SpM c.C a1 a2 sl po)) (hm' : m ∉ ledN)
    (h : DA c env (e :: es) fun ws => ∃ z, a1 z = [] ∧ sl z = (.lg tab n, co) ∧ a2 z = ws ∧ ∀ k' co' A', po z k' co' → A'.a = A.a → ∃ env', Up N env x (ow k' A' co') env' ∧ κ.nx env')
    (he : ∀ X : Cx, starEach (e :: es) X.env = (false, eval e X.env) :: starEach es X.env := by intro _; kernel_rfl) (hpl : ∀ X : Cx, (backTo p (starEach es X.env)).any (·.1) = false := by intro _; kernel_rfl) {pl : Cx → Sem Bool}
    (ht : ∀ X : Cx, eval (.Call (.Attribute (.Name x p1) m apos) (e :: es) [] p) X.env = (do
      let ov ← eval (.Name x p1) X.env
      standAt apos.atName
      let (f, first) ← holding [ov] (getMethod ov m (pl X))
      callWith p f first (backTo p (starEach (e :: es) X.env)) (backToKw p (keywordEach [] X.env))) := by intro _; rfl)
    (hs : ∀ X : Cx, ∀ t, PE X (.Call (.Attribute (.Name x p1) m apos) (e :: es) [] p) t → PS X (.Expr (.Call (.Attribute (.Name x p1) m apos) (e :: es) [] p) pos) (tDrop t) := by intro _ _ h; exact ps_expr h) :
    DS c env (.Expr (.Call (.Attribute (.Name x p1) m apos) (e :: es) [] p) pos) κ := fun X hX B Z H S fp σ E D κ' => by
  obtain ⟨kk, f, fd, ps, FO, hr, hme, hb⟩ := ok.me hX F
  have hK : X.K = c.K := (ok.eqs X hX).2.2.1
  obtain ⟨i', i1, i2'⟩ := hx.get
  have vv := E.vis i' _ x i2' (by rw [hN]; exact i1)
  refine oS (hs X _ (pe_meth (ok.pvar hX (p := p1) (by rw [hN]; exact i1) vv) (by rw [hK]; exact ld.cl) hme FO hr hb .nil pass0 pA (he X) (hpl X) (ht X))) ?_
  obtain ⟨⟨dx, tb, q1, qt⟩, q2, q3, q4, q5⟩ := E.ownf (k := .lg tab n) i2'
  refine ⟨_, q5, A.a, dx, _, rfl, q1, no_look ok (by kernel_rfl) hm', ?_⟩
  refine h X hX B Z H S fp σ E _ fun ws vs H1 S1 ⟨z, z1, z2, z3, hz⟩ E1 s1 r1 => ?_
  have O := E1.owA (k := .lg tab n) i2'
  refine ⟨z, S1, A, [], vs, E1.sub, by rw [z2]; exact O, by rw [List.append_nil]; rfl, by rw [z1]; exact .nil, by rw [z3]; exact r1, fun k' co' A' H2 S2 hp ha keep hS sub fr hf O' => ?_⟩
  obtain ⟨env', u, hq⟩ := hz k' co' A' hp ha
  obtain ⟨j, j1, j2, rfl⟩ := u.get
  obtain rfl : i' = j := nodup_ix (by rw [← hN]; exact ok.nd) i1 j1
  exact κ'.nx _ H2 S2 _ _ hq (E1.mut (k := .lg tab n) i2' ha keep hS sub fr hf O') (s1.trans hS)
/-! ### new own state -/
def blank : Co := ⟨[], [], [], [.bool false], []⟩
def no : Hp := fun _ => none
theorem no_same {S : Hp} : Same no S := fun a o e => by cases e
structure NewA (C : Addr) (H H' : Hp) (S : Hp) (A : Ad) (k : OKd) (co : Co) : Prop where
  same : Same H H'
  new : ∀ a ∈ A.fp, H a = none ∧ ∃ o, H' a = some o ∧ isTup o = false
  hd : HD C H' S A k
  oc : OCA H' S A co
  nd : A.fp.Nodup
/-- a new state of one's own is bound to a name -/
theorem asg_new {B : Hp} {Z : Addr → Prop} {H H1 S : Hp} {fp : Nat → List Addr} {σ : L2.St} (ok : COk c) (hN : c.N = N) {i : Nat} (hi : N[i]? = some x) (hv : c.Vi x) (E : ER c B Z H S fp σ env) (n : NewA c.C H H1 S A k co) {env' : En} (u : Up N env x (ow k A co) env') :
    ∃ fp', ER c B Z H1 S fp' (σ.set i (some (.ref A.a))) env' := by
  have E1 : ER c B Z H1 S fp σ env := E.grow n.same (Same.refl S) (E.sub.trans n.same) fun a o e h => by rw [h] at e; cases e
  obtain ⟨j, j1, j2, rfl⟩ := u.get
  obtain rfl : i = j := nodup_ix (by rw [← hN]; exact ok.nd) hi j1
  refine ⟨_, E1.setO ok (s := ow k A co) (l := A.fp) (by rw [hN]; exact hi) hv j2 (ow_iff.mpr ⟨rfl, n.hd, n.oc, rfl, n.nd⟩) fun a ha => ?_⟩
  obtain ⟨h1, h2⟩ := n.new a ha
  have l := E.lone h1
  exact ⟨l, h2⟩
def SpO (C : Addr) (k : OKd) (co : Co) : Sp := fun vs H Q _ => vs = [] ∧ ∀ A H', NewA C H H' no A k co → Q (.ref A.a) H'
theorem NewA.up {C : Addr} {H H' S : Hp} (n : NewA C H H' no A .st co) : NewA C H H' S A .st co := by
  refine ⟨n.same, n.new, n.hd, ?_, n.nd⟩
  obtain ⟨⟨k1, e1, r1⟩, ⟨k2, e2, r2⟩, ⟨k3, e3, r3, r3n⟩, ⟨k4, e4, r4⟩, k5, e5, r5⟩ := n.oc
  exact ⟨⟨k1, e1, r1.mono no_same⟩, ⟨k2, e2, r2.mono no_same⟩, ⟨k3, e3, KvB.stay no_same (fun _ _ => rfl) r3, r3n⟩, ⟨k4, e4, DtAll.mono no_same _ _ r4⟩, k5, e5, DtAll.mono no_same _ _ r5⟩
/-- x = g() -/
theorem ds_newS (ok : COk c) (hN : c.N = N) {Ls : List Str} (hm : x ∈ N) (hLo : ∀ y ∈ Ls, c.Lo y) (hl0 : x ∈ Ls) (F : Fn c g (SpO c.C .st co)) (hG : c.G = G) (hg : g ∈ G) (h : ∀ A, ∃ env', Up N env x (.ost A co) env' ∧ κ.nx env')
    (hs : ∀ X : Cx, swapsWith (.Call (.Name g p2) [] [] p) (some (.Name x p')) pos.line X.env = pure false := by intro _; kernel_rfl) : DS c env (.Assign [.Name x p'] (.Call (.Name g p2) [] [] p) pos) κ := fun X hX B Z H S fp σ E D κ' => by
  obtain ⟨kk, f, fd, ps, FO, hr, hmg, hk, hb⟩ := ok.fn hX F
  have hl := hLo x hl0
  obtain ⟨i, hi, hi2⟩ := List.getElem_of_mem hm
  have hi : N[i]? = some x := by rw [List.getElem?_eq_getElem hi, hi2]
  have hn : X.N[i]? = some x := by rw [ok.N X hX, hN]; exact hi
  obtain ⟨l1, l2⟩ := ok.loc X hX x hl
  refine oS (ps_set (i := i) (by rw [ok.N X hX]; exact ok.nd) hn l1 (pe_call0 FO hr (ok.gl X hX g (hG ▸ hg)) hmg hk hb .nil pass0 (ok.dbgG g (hG ▸ hg)).1) (hs X) l2) ?_
  refine ⟨rfl, fun A H' n => ?_⟩
  obtain ⟨env', u, hq⟩ := h A
  obtain ⟨fp', E'⟩ := asg_new (k := .st) ok hN hi (ok.lov x hl) E n.up u
  exact κ'.nx _ H' S _ _ hq E' (Same.refl S)
end
/-! ## 20. The table of parts, MOST, a written dict, a new Ledger, a dict of one's own -/
def evParts : List (Str × Int) := [("open", 5), ("say", 5), ("hear", 5), ("told", 3), ("close", 3), ("drop", 3), ("become", 3), ("done", 2), ("fall", 2)]
def evNames : List Str := ["open", "say", "hear", "told", "close", "drop", "become", "done", "fall", "fal"]
def partN (z : Str) : Option Int := evParts.lookup z
structure PkOk (K : PySem.W.Frag) (w : World) (mg : Str → Option Value) : Prop where
  at_ : ∃ a es n, mg "PARTS" = some (.ref a) ∧ KDict K w a es n ∧ ∀ z ∈ evNames, ∃ r, PySem.W.nsIn K a z = some r ∧ ((∃ m u, partN z = some m ∧ r = some u ∧ RelV (.int m) u) ∨ (partN z = none ∧ r = none))
section
variable {c : Ctx} {env : En} {N G : List Str} {pos p p1 p2 p' : Pos} {κ : Kt} {a b e i o : Expr} {es : List Expr} {x : Str} {P : W → Prop}
theorem de_parts {apos : Pos} {j} (ok : COk c) (pk : PkOk c.K c.w c.mg) (hG : c.G = G) (hg : ("PARTS" : Str) ∈ G) (h : DE c env e fun w => ∃ z, w = .d (.str z) ∧ z ∈ evNames ∧ P (.d (.int ((partN z).getD 0))))
    (m : ∀ X : Cx, M2 X (.Name "PARTS" p1) "get" apos e (.Constant (.int 0) j p2) pos := by intro _; exact ⟨rfl, rfl, rfl, rfl⟩) : DE c env (.Call (.Attribute (.Name "PARTS" p1) "get" apos) [e, .Constant (.int 0) j p2] [] pos) P := by
  intro X hX B Z H S fp σ E Q q pins s I
  obtain ⟨l, es, n, hm, kd, hv⟩ := pk.at_
  obtain ⟨e1, e2, e3, e4, e5⟩ := ok.eqs X hX
  rw [← e2, ← e3] at kd
  rw [← e3] at hv
  rw [← e4] at hm
  have hg' := ok.gl X hX _ (hG ▸ hg)
  have m := m X
  refine wpAny_Call_method m.base m.few m.line PySem.F.plainAttrs_dict PySem.F.slot_dict_get PySem.F.type_dict_get (thn ((pe_glob (v := .ref l) hg' hm rfl).run pins s σ H (fun v H1 => v = .ref l ∧ H1 = H) I ⟨rfl, rfl⟩) fun u s1 ⟨x, H1, I1, rx, ex, eH⟩ => ?_)
  subst ex eH
  obtain rfl : u = Value.ref l := rx
  have hmo := PySem.W.mapOf_K (prog := X.prog) (w := X.w) I1.kIn kd.at_ kd.lit
  refine ⟨hmo.typeIs, fun b eb => ?_, ?_⟩
  · cases eb
    obtain ⟨ob, _, _, g1, g2, _⟩ := hmo
    exact ⟨ob, g1, g2.2.1⟩
  rw [m.trees]
  refine Calls.callWith_builtin rfl (Calls.evalArgs_plain (Calls.spliced_cons (thn (h X hX B Z H1 S fp σ E (fun v H2 => ∃ S' z, v = .str z ∧ ER c B Z H2 S' fp σ env ∧ Same S S' ∧ z ∈ evNames ∧ P (.d (.int ((partN z).getD 0)))) (fun w v H' S' ⟨z, ez, hz, hP⟩ E' s' r => by
      subst ez
      exact ⟨S', z, Dt.str_inv (S := S') r, E', s', hz, hP⟩) pins s1 I1) fun iv s2 ⟨y, H2, I2, ry, S', z, ey, E2, s2', hz, hP⟩ =>
    Calls.spliced_cons (thn ((pe_int (i := 0)).run pins s2 σ H2 (fun v H3 => v = .int 0 ∧ H3 = H2) I2 ⟨rfl, rfl⟩) fun fv s3 ⟨y3, H3, I3, r3, e3, eH⟩ => Calls.spliced_nil ?_))))
  subst ey e3 eH
  obtain ⟨t, rfl⟩ := ry
  obtain ⟨r, hr, hr2⟩ := hv z hz
  have hmo := PySem.W.mapOf_K (prog := X.prog) (w := X.w) I3.kIn kd.at_ kd.lit
  refine call_meetsIn PySem.F.slot_dict_get hmo.typeIs PySem.F.entry_dict_get (PySem.F.args_dict_get_3 _ _ _) (meets_dict_get_default (strKind X.prog X.w) l (strKind_is X.prog X.w z t) kd.low fv) ⟨_, hmo, ?_⟩
  rw [PySem.W.find_K kd.at_ hr]
  show EP X pins σ Q (r.getD fv) _
  refine ⟨.int ((partN z).getD 0), H3, I3.tok _, ?_, q _ _ H3 S' hP E2 s2' (.int _)⟩
  rcases hr2 with ⟨m, u, h1, h2, h3⟩ | ⟨h1, h2⟩
  · rw [h1, h2]; exact h3
  · rw [h1, h2]; exact r3
/-- a global that is a number -/
theorem de_glob {n : Int} {u : Value} (ok : COk c) (hm : c.mg x = some u) (hr : RelV (.int n) u) (hG : c.G = G) (hg : x ∈ G) (h : P (.d (.int n))) : DE c env (.Name x pos) P := fun X hX B Z H S fp σ E Q q =>
  oE (pe_glob (ok.gl X hX _ (hG ▸ hg)) (by rw [(ok.eqs X hX).2.2.2.1]; exact hm) hr (ok.dbgG x (hG ▸ hg)).1) (q _ _ H S h E (Same.refl S) (.int n))
/-- a written dict, names to numbers -/
inductive Dsp : List (Option Expr) → List Expr → List (Str × Int) → Prop
  | nil : Dsp [] [] []
  | cons {k : Str} {n : Int} {j j' p p'} {ks : List (Option Expr)} {vs : List Expr} {l : List (Str × Int)} : Dsp ks vs l → Dsp (some (.Constant (.str k) j p) :: ks) (.Constant (.int n) j' p' :: vs) ((k, n) :: l)
theorem dsp_run {X : Cx} {ks : List (Option Expr)} {vs : List Expr} {l : List (Str × Int)} (h : Dsp ks vs l) : ∃ trs, PPs X pos ks vs trs ∧ ∀ σ H Q, Q ((l.map fun p => ((Sum.inr p.1 : Key), V.int p.2)).map fun kv => (kV kv.1, kv.2)) H → tPairs trs σ H Q := by
  induction h with
  | nil => exact ⟨[], pps_nil, fun σ H Q q => q⟩
  | cons _ ih =>
    obtain ⟨trs, h1, h2⟩ := ih
    exact ⟨_, pps_cons pe_str pe_int h1, fun σ H Q q => h2 σ H _ q⟩
theorem disp_all {ks : List (Option Expr)} {vs : List Expr} {l : List (Str × Int)} (h : Dsp ks vs l) : ks.all (·.isSome) = true ∧ ks.length = vs.length ∧ ks.length = l.length := by
  induction h with
  | nil => exact ⟨rfl, rfl, rfl⟩
  | cons _ ih => exact ⟨by rw [List.all_cons, ih.1]; rfl, by rw [List.length_cons, List.length_cons, ih.2.1], by rw [List.length_cons, List.length_cons, ih.2.2]⟩
theorem de_disp {ks : List (Option Expr)} {vs : List Expr} {l : List (Str × Int)} (d : Dsp ks vs l) (h0 : l ≠ []) (h15 : l.length ≤ 15) (hm : mergeK [] (l.map fun p => ((Sum.inr p.1 : Key), V.int p.2)) = l.map fun p => ((Sum.inr p.1 : Key), V.int p.2))
    (h : P (.tb (l.map fun p => (p.1, .int p.2)))) : DE c env (.Dict ks vs pos) P := by
  intro X hX B Z H S fp σ E Q q
  obtain ⟨trs, t1, t2⟩ := dsp_run (X := X) (pos := pos) d
  obtain ⟨a1, a2, a3⟩ := disp_all d
  refine oE (pe_disp t1 a1 a2 (fun e => h0 (List.eq_nil_of_length_eq_zero (by rw [← a3, e]; rfl))) (by rw [a3]; exact h15)) ?_
  refine fun p hp => t2 σ _ _ ⟨upd_same, _, rfl, by rw [List.length_map]; exact h15, ?_⟩
  rw [hm]
  have e1 : ∀ u, upd (upd H p (.dK [])) p u = upd H p u := fun u => funext fun a => by
    by_cases h : a = p
    · subst h; rw [upd_same, upd_same]
    · rw [upd_ne h, upd_ne h, upd_ne h]
  rw [e1]
  refine q _ _ _ _ h (E.laid hp) (same_upd (E.sub.free hp)) ⟨p, _, rfl, upd_same, ?_⟩
  have : ∀ l : List (Str × Int), KvS (upd S p (.dK (l.map fun p => ((Sum.inr p.1 : Key), V.int p.2)))) (l.map fun p => (p.1, .int p.2)) (l.map fun p => ((Sum.inr p.1 : Key), V.int p.2)) := by
    intro l
    have g : ∀ (R : Hp) (m : List (Str × Int)), KvS R (m.map fun p => (p.1, .int p.2)) (m.map fun p => ((Sum.inr p.1 : Key), V.int p.2)) := by
      intro R m
      induction m with
      | nil => exact .nil
      | cons p m ih => exact .cons ⟨rfl, .int _⟩ ih
    exact g _ l
  exact this l
/-! ### a dict of one's own -/
theorem ds_newD (ok : COk c) (hN : c.N = N) {Ls : List Str} (hm : x ∈ N) (hLo : ∀ y ∈ Ls, c.Lo y) (hl0 : x ∈ Ls) (h : ∃ env', Up N env x (.otb []) env' ∧ κ.nx env') (hs : ∀ X : Cx, swapsWith (.Dict [] [] p) (some (.Name x p')) pos.line X.env = pure false := by intro _; kernel_rfl) : DS c env (.Assign [.Name x p'] (.Dict [] [] p) pos) κ := fun X hX B Z H S fp σ E D k => by
  have hl := hLo x hl0
  obtain ⟨i, hi, hi2⟩ := List.getElem_of_mem hm
  have hi : N[i]? = some x := by rw [List.getElem?_eq_getElem hi, hi2]
  have hn : X.N[i]? = some x := by rw [ok.N X hX, hN]; exact hi
  obtain ⟨l1, l2⟩ := ok.loc X hX x hl
  refine oS (ps_set (i := i) (by rw [ok.N X hX]; exact ok.nd) hn l1 pe_dnewK (hs X) l2) ?_
  intro q hq
  obtain ⟨env', u, hk⟩ := h
  obtain ⟨j, j1, j2, rfl⟩ := u.get
  obtain rfl : i = j := nodup_ix (by rw [← hN]; exact ok.nd) hi j1
  have L := E.lone hq
  exact k.nx _ _ S _ _ hk ((E.newH (o := .dK []) hq).setO ok (s := .otb []) (l := [q]) (by rw [hN]; exact j1) (ok.lov x hl) j2 ⟨q, [], rfl, upd_same, .nil, rfl⟩ fun a ha => by
    obtain rfl : a = q := by simpa using ha
    exact ⟨L, _, upd_same, rfl⟩) (Same.refl S)
theorem KvS.put {S : Hp} {v : V} {d : PD} {k : Str} (hv : Dt S v d) {kvs : List (Str × PD)} {ks : List (Key × V)} (r : KvS S kvs ks) : KvS S (pt kvs k d) (putK ks (Sum.inr k) v) := by
  have ha : ∀ {kvs : List (Str × PD)} {ks : List (Key × V)}, KvS S kvs ks → (kvs.any fun p => decide (p.1 = k)) = (ks.any fun q => decide (q.1 = Sum.inr k)) := by
    intro kvs ks r
    induction r with
    | nil => rfl
    | cons h t ih =>
      rw [List.any_cons, List.any_cons, ih, h.1]
      congr 1
      exact decide_eq_decide.mpr ⟨fun e => by rw [e], fun e => Sum.inr.inj e⟩
  have hm : ∀ {kvs : List (Str × PD)} {ks : List (Key × V)}, KvS S kvs ks → KvS S (kvs.map fun kv => if kv.1 = k then (kv.1, d) else kv) (ks.map fun kv => if kv.1 = Sum.inr k then (kv.1, v) else kv) := by
    intro kvs ks r
    induction r with
    | nil => exact .nil
    | cons h t ih =>
      rw [List.map_cons, List.map_cons]
      refine .cons ?_ ih
      rename_i p q _ _
      by_cases e : p.1 = k
      · have : q.1 = Sum.inr k := by rw [h.1, e]
        rw [if_pos e, if_pos this]
        exact ⟨h.1, hv⟩
      · have : ¬ q.1 = Sum.inr k := fun z => e (Sum.inr.inj (h.1.symm.trans z))
        rw [if_neg e, if_neg this]
        exact h
  unfold pt putK
  rw [ha r]
  split
  · exact hm r
  · have app : ∀ {kvs : List (Str × PD)} {ks : List (Key × V)}, KvS S kvs ks → KvS S (kvs ++ [(k, d)]) (ks ++ [(Sum.inr k, v)]) := by
      intro kvs ks r
      induction r with
      | nil => exact .cons ⟨rfl, hv⟩ .nil
      | cons h t ih => exact .cons h ih
    exact app r
/-- x[i] = e -/
theorem ds_putD {kvs : List (Str × PD)} (ok : COk c) (hN : c.N = N) (hx : LkO N env x (.otb kvs))
    (h : DE c env e fun w => ∃ d, w = .d d ∧ DE c env i fun u => ∃ z, u = .d (.str z) ∧ kvs.length < 1000000 ∧ ∃ env', Up N env x (.otb (pt kvs z d)) env' ∧ κ.nx env')
    (hs : ∀ X : Cx, swapsWith e (some (.Subscript (.Name x p) i p')) pos.line X.env = pure false := by intro _; kernel_rfl) : DS c env (.Assign [.Subscript (.Name x p) i p'] e pos) κ := fun X hX B Z H S fp σ E D κ' => by
  obtain ⟨j, j1, j2⟩ := hx.get
  have vv := E.vis j _ x j2 (by rw [hN]; exact j1)
  refine oS (ps_dput (ok.hu1 hX) (ok.pvar hX (p := p) (by rw [hN]; exact j1) vv) pE pE (hs X)) ?_
  refine h X hX B Z H S fp σ E _ fun w v H1 S1 ⟨d, e1, h1⟩ E1 s1 r1 => ?_
  subst e1
  obtain ⟨v0, g1, l0, ks0, rfl, g2, g3, g4⟩ := E1.slot j _ j2
  refine ⟨_, g1, ?_⟩
  refine h1 X hX B Z H1 S1 fp σ E1 _ fun u v2 H2 S2 ⟨z, e2, hl, env', u1, hq⟩ E2 s2 r2 => ?_
  subst e2
  obtain rfl := Dt.str_inv (S := S2) r2
  obtain ⟨j', q1, q2, rfl⟩ := u1.get
  obtain rfl : j = j' := nodup_ix (by rw [← hN]; exact ok.nd) j1 q1
  obtain ⟨v3, y1, l, ks, e3, y2, y3, y4⟩ := E2.slot j _ j2
  rw [g1] at y1
  cases y1
  cases e3
  have hl0 : S2 l0 = none := (E2.out j l0 (by rw [y4]; simp)).1
  refine ⟨l0, _, rfl, DPut.k (k := Sum.inr z) y2 (Nat.lt_of_lt_of_le (by rw [← Paired.length y3]; exact hl) (by decide)), ?_⟩
  refine κ'.nx _ _ S2 _ _ hq (E2.chg (l' := [l0]) g1 ⟨_, j2⟩ (Same.refl S2) (fun a o ea => ?_) (fun a o ea ha => ?_) (fun a ha => ?_) (fun a o ea hn => by rw [hn] at ea; cases ea) ⟨l0, _, rfl, upd_same, y3.put (Rep.mono s2 (w := .d d) r1), rfl⟩) (s1.trans s2)
  · have hne : a ≠ l0 := fun z => by rw [z, hl0] at ea; cases ea
    rw [upd_ne hne]; exact E2.sub a o ea
  · have hne : a ≠ l0 := fun z => ha (by rw [y4, z]; simp)
    rw [upd_ne hne]; exact ea
  · obtain rfl : a = l0 := by simpa using ha
    exact ⟨.inl (by rw [y4]; simp), hl0, _, upd_same, rfl⟩
/-- return x -/
theorem ds_retT {kvs : List (Str × PD)} (ok : COk c) (hN : c.N = N) (hx : LkO N env x (.otb kvs)) (h : ∀ env', κ.rt (.tb kvs) env') : DS c env (.Return (some (.Name x p)) pos) κ := fun X hX B Z H S fp σ E D k => by
  obtain ⟨i, v, i2, h2, h3, l, ks, rfl, h4, h5, h6⟩ := own_var ok (p := p) hN hx hX E
  refine oS (ps_ret h2) ⟨_, h3, ?_⟩
  -- the name is let go
  have E2 : ER c B Z H S (fun j => if j = i then [] else fp j) σ (env.set i none) := by
    refine ⟨by rw [List.length_set]; exact E.len, E.sub, E.prot, E.forb, E.zin, fun j s e => ?_, fun j a ha => ?_, fun j j' a ha hb => ?_, fun j s y e hy => ?_, fun p q hp => ?_⟩
    · by_cases hj : i = j
      · subst hj
        have hlt : i < env.length := (List.getElem?_eq_some_iff.mp i2).1
        rw [List.getElem?_set_self hlt] at e; cases e
      · rw [List.getElem?_set_ne hj] at e
        obtain ⟨v, g1, g2⟩ := E.slot j s e
        exact ⟨v, g1, by rw [if_neg (Ne.symm hj)]; exact g2⟩
    · by_cases hj : j = i
      · rw [if_pos hj] at ha; simp at ha
      · rw [if_neg hj] at ha; exact E.out j a ha
    · by_cases hj : j = i
      · rw [if_pos hj] at ha; simp at ha
      · by_cases hj' : j' = i
        · rw [if_pos hj'] at hb; simp at hb
        · rw [if_neg hj] at ha; rw [if_neg hj'] at hb; exact E.sep j j' a ha hb
    · by_cases hj : i = j
      · subst hj
        have hlt : i < env.length := (List.getElem?_eq_some_iff.mp i2).1
        rw [List.getElem?_set_self hlt] at e; cases e
      · rw [List.getElem?_set_ne hj] at e; exact E.vis j s y e hy
    · obtain ⟨g1, g2⟩ := E.pool p q hp
      refine ⟨g1, fun a ha => ?_⟩
      obtain ⟨y1, y2, y3, y4⟩ := g2 a ha
      refine ⟨y1, y2, y3, fun j => ?_⟩
      by_cases hj : j = i
      · rw [if_pos hj]; simp
      · rw [if_neg hj]; exact y4 j
  obtain ⟨g1, g2, g3, _⟩ := E.out i l (by rw [h6]; simp)
  have L : Lone c B Z S (fun j => if j = i then [] else fp j) l := by
    refine ⟨g1, g2, g3, fun j hj => ?_, fun x y hp => ?_⟩
    · by_cases e : j = i
      · rw [if_pos e] at hj; simp at hj
      · rw [if_neg e] at hj
        exact e (E.sep j i l hj (by rw [h6]; simp))
    · have g4 := (E.pool x y hp).2
      exact ⟨fun e => (g4 l (.inl e)).2.2.2 i (by rw [h6]; simp), fun e => (g4 l (.inr e)).2.2.2 i (by rw [h6]; simp)⟩
  have s1 : Same S (upd S l (.dK ks)) := same_upd g1
  exact k.rt (.tb kvs) _ _ H _ _ _ (h _) (E2.take h4 L) s1 ⟨l, ks, rfl, upd_same, h5.mono s1⟩
end
/-! ### Ledger(..) -/
def SpI (C : Addr) : Sp := fun vs H Q _ => ∃ x dx tbv tab S, vs = [.ref x, tbv] ∧ H x = some (.ins C dx []) ∧ S x = none ∧ Same S H ∧ RTb S tbv tab ∧
  ∀ A H' S', A.a = x → (∀ a o, H a = some o → a ≠ x → H' a = some o) → Out H S H' S' → (∀ a ∈ A.fp, (a = x ∨ H a = none) ∧ S' a = none ∧ ∃ o, H' a = some o ∧ isTup o = false) → HD C H' S' A (.lg tab 0) → OCA H' S' A blank → A.fp.Nodup → Q .non H'
/-- the maker of a class -/
structure MkG (P : Program) (w : World) (K : PySem.W.Frag) (mg : Str → Option Value) (base : Heap) (C : Addr) (x : Str) (k : Nat) (sp : Sp) : Prop where
  ex : ∃ f, FnX P w K mg base k sp f ∧ L2.Mk K C f ∧ mg x = some (.ref C)
section
variable {c : Ctx} {env : En} {N G : List Str} {pos p p2 p' : Pos} {κ : Kt} {e : Expr} {x g : Str}
/-- x = Ledger(e) -/
theorem ds_newL (ok : COk c) (hN : c.N = N) {Ls : List Str} (hm : x ∈ N) (hLo : ∀ y ∈ Ls, c.Lo y) (hl0 : x ∈ Ls) {k : Nat} (hk : k + 1 ≤ c.k) (F : MkG c.P c.w c.K c.mg c.base c.C g k (SpI c.C)) (hG : c.G = G) (hg : g ∈ G)
    (h : DE c env e fun w => ∃ tab, w = .tb tab ∧ ∀ A, ∃ env', Up N env x (.olg A ⟨tab, 0, blank⟩) env' ∧ κ.nx env')
    (hs : ∀ X : Cx, swapsWith (.Call (.Name g p2) [e] [] p) (some (.Name x p')) pos.line X.env = pure false := by intro _; kernel_rfl) (he : ∀ X : Cx, starEach (e :: []) X.env = (false, eval e X.env) :: starEach [] X.env := by intro _; kernel_rfl) (hpl : ∀ X : Cx, (backTo p (starEach [] X.env)).any (·.1) = false := by intro _; kernel_rfl) : DS c env (.Assign [.Name x p'] (.Call (.Name g p2) [e] [] p) pos) κ := fun X hX B Z H S fp σ E D κ' => by
  obtain ⟨f, ⟨fd, ps, FO, hb⟩, M, hmg⟩ := F.ex
  obtain ⟨e1, e2, e3, e4, e5⟩ := ok.eqs X hX
  rw [← e1, ← e2, ← e3, ← e4, ← e5] at FO
  rw [← e3] at M hb
  rw [← e4] at hmg
  have hl := hLo x hl0
  obtain ⟨i, hi, hi2⟩ := List.getElem_of_mem hm
  have hi : N[i]? = some x := by rw [List.getElem?_eq_getElem hi, hi2]
  have hn : X.N[i]? = some x := by rw [ok.N X hX, hN]; exact hi
  obtain ⟨l1, l2⟩ := ok.loc X hX x hl
  refine oS (ps_set (i := i) (by rw [ok.N X hX]; exact ok.nd) hn l1 (pe_make M FO ((ok.room X hX).mono hk) (ok.gl X hX g (hG ▸ hg)) hmg hb .nil pass0 (pa_cons pE pa_nil (he X)) (ok.dbgG g (hG ▸ hg)).1 (he X) (hpl X)) (hs X) l2) ?_
  refine h X hX B Z H S fp σ E _ fun w v H1 S1 ⟨tab, ew, hA⟩ E1 s1 r1 => ?_
  subst ew
  intro y dx hy hdx hne
  have k0 : Same H1 (upd (upd H1 dx (.own y)) y (.ins c.C dx [])) := fun a o ea => by
    rw [upd_ne (ne_of_none ea hy), upd_ne (ne_of_none ea hdx)]; exact ea
  have sy : S1 y = none := E1.sub.free hy
  refine ⟨y, dx, v, tab, S1, by rw [List.append_nil], upd_same, sy, E1.sub.trans k0, r1, fun A H' S' ha keep ot hf hd oc nd => ⟨rfl, ?_⟩⟩
  -- everything that stood is kept
  have keep1 : Same H1 H' := fun a o ea => keep a o (k0 a o ea) (ne_of_none ea hy)
  have E2 : ER c B Z H' S' fp σ env := E1.grow keep1 ot.s ot.sub fun a o ea hn => by
    rcases ot.new a o ea hn with z | z
    · left
      by_cases h1 : a = y
      · rw [h1]; exact hy
      · by_cases h2 : a = dx
        · rw [h2]; exact hdx
        · rw [upd_ne h1, upd_ne h2] at z; exact z
    · exact .inr z
  obtain ⟨env', u, hq⟩ := hA A
  obtain ⟨j, j1, j2, rfl⟩ := u.get
  obtain rfl : i = j := nodup_ix (by rw [← hN]; exact ok.nd) hi j1
  show D.nx (σ.set i (some (.ref y))) H'
  rw [← ha]
  refine κ'.nx _ H' S' _ _ hq (E2.setO ok (s := .olg A ⟨tab, 0, blank⟩) (l := A.fp) (by rw [hN]; exact hi) (ok.lov x hl) j2 ((ow_iff (k := .lg tab 0)).mpr ⟨rfl, hd, oc, rfl, nd⟩) fun a haf => ?_) (s1.trans ot.s)
  obtain ⟨g1, g2, g3⟩ := hf a haf
  have hn1 : H1 a = none := by
    rcases g1 with z | z
    · rw [z]; exact hy
    · cases q : H1 a with
      | none => rfl
      | some o => rw [k0 a o q] at z; cases z
  have L := E1.lone hn1
  exact ⟨⟨g2, L.b, L.z, L.f, L.pl⟩, g3⟩
end
/-! ## 21. list(reversed(x)) -/
section
variable {prog : Program} {w : World} {A : Around} {E : Value → Shared → Prop} {s : Shared}
theorem ext_rev {R : Result → Shared → Prop} {it l S : Addr} {its : Array Value} (ha : A.handled = none) (hr : s.heap.IsRevIter it l ((its.size : Int) - 1)) (hL : s.heap.IsList l its) (n1 : l ≠ it) (n2 : S ≠ it) (n3 : S ≠ l) (hz : its.size ≤ sizeLine) {c0 : Nat} (hS : s.heap.get? S = some { cls := .type "list", data := .seq #[] c0 })
    (q : ∀ h2 tk ac c2, (∀ b o, b ≠ S → b ≠ it → s.heap.get? b = some o → h2.get? b = some o) → h2.get? S = some { cls := .type "list", dict := none, data := .seq ac c2, slots := #[] } → ItemsOf (fun i v => its[its.size - 1 - i]? = some v) ac its.size → R (.ok (.ret .none)) { s with heap := h2, toks := tk }) :
    wpAny (model prog w) A.in1 (Builtin.List.listExtendWith (.ref S) (.ref it) .none) (fun z s2 => match z with
      | .done y => R (.ok y) s2
      | .again c2 => c2.quiet = true ∧ codeAny (model prog w) A c2 R s2) (fun e s2 => R (.error e) s2) s := by
  have Wk := (Walks.listRev (prog := prog) (w := w) (A := A.in1) ha it l n1 its).toS
  have hfr : S ∉ [it, l] := fun h => by
    rcases List.mem_cons.mp h with z | z
    · exact n2 z
    · exact n3 (by simpa using z)
  have hty : s.TypeIs (.ref it) "list_reverseiterator" := hr.typeIs
  have same0 : Builtin.List.listSameRef (.ref S) (.ref it) = false := by simp [Builtin.List.listSameRef, n2]
  unfold Builtin.List.listExtendWith
  refine wpAny_bind (wpAny_typeOf hty ?_)
  rw [if_neg (by rw [same0]; decide)]
  refine wpAny_bind (wpAny_pyIter_revIter hr (wpAny_bind (wpAny_holding ?_)))
  unfold Builtin.List.listLengthHint
  refine wpAny_bind (wpAny_specialOf hty RT.nolen_lri ?_)
  show wpAny _ A.in1 (specialOf (Value.ref it) (Str.ofString "__length_hint__") >>= _) _ _ _
  refine wpAny_bind (wpAny_specialOf hty RT.hint_lri ?_)
  generalize gi : ("list_reverseiterator.__length_hint__" : String) = id1
  wp_delta
  rw [show splitId id1 = some ("list_reverseiterator", "__length_hint__") from by subst gi; decide +kernel]
  subst gi
  refine wpAny_bind (wpAny_isInstance (b := true) hty (by rw [isSubtype_type]; kernel_rfl) (wpAny_pure ?_))
  rw [if_neg (by decide)]
  have z0 : ((its.size : Nat) : Int) - 1 - ((0 : Nat) : Int) = (its.size : Int) - 1 := by omega
  refine wpAny_pure ⟨plainId_quiet PySem.F.plain_extend_loop _, codeAny_extend_loopS Wk hz _ hfr _ its.size 0 _ _ _ rfl (Nat.zero_le _) ⟨Nat.zero_le _, by rw [z0]; exact hr, hL⟩ hS (ItemsOf.nil _) fun s2 ac c2 hm g1 g2 => ?_⟩
  rw [Moved.eq_with hm]
  refine q s2.heap s2.toks ac c2 (fun b o b1 b2 e => hm.heap b o (fun hb => ?_) e) g1 g2
  rcases List.mem_cons.mp hb with z | z
  · exact b1 z
  · exact b2 (List.mem_singleton.mp z)
theorem call_list_rev {it l : Addr} {its : Array Value} {Q : Value → Shared → Prop} (ha : A.handled = none) (hr : s.heap.IsRevIter it l ((its.size : Int) - 1)) (hL : s.heap.IsList l its) (n1 : l ≠ it) (hz : its.size ≤ sizeLine)
    (q : ∀ h2 tk ac c2, (∀ b o, b ≠ it → s.heap.get? b = some o → h2.get? b = some o) → h2.get? s.heap.objs.size = some { cls := .type "list", dict := none, data := .seq ac c2, slots := #[] } → ItemsOf (fun i v => its[its.size - 1 - i]? = some v) ac its.size → Q (.ref s.heap.objs.size) { s with heap := h2, toks := tk }) :
    wpAny (model prog w) A (call (.type "list") [.ref it]) Q E s := by
  obtain ⟨oi, hoi, _⟩ := id hr
  obtain ⟨ol, hol, _⟩ := id hL
  have m1 : s.heap.objs.size ≠ it := Nat.ne_of_gt (Heap.lt_size hoi)
  have m2 : s.heap.objs.size ≠ l := Nat.ne_of_gt (Heap.lt_size hol)
  refine callType_codes (Q₁ := fun y s1 => y = .ref s.heap.objs.size ∧ s1 = { s with heap := s.heap.push { cls := .type "list", data := .seq #[] } }) PySem.F.called_list (PySem.F.typeCall_list_1 _) PySem.F.entry_list_init (code_list_new _ ⟨rfl, rfl⟩) fun y s1 h1 => ?_
  obtain ⟨rfl, rfl⟩ := h1
  have g0 : (s.heap.push { cls := .type "list", data := .seq #[] }).get? s.heap.objs.size = some { cls := .type "list", data := .seq #[] } := Heap.get?_push_size _ rfl
  refine ⟨⟨_, g0, rfl⟩, PySem.F.args_list_init_2 _ _, ?_⟩
  show wpAny _ _ (Builtin.List.listItems (.ref s.heap.objs.size) >>= fun old => Builtin.List.listUpdate (.ref s.heap.objs.size) (fun _ => #[]) >>= fun _ => letGo old.toList.reverse >>= fun _ => Builtin.List.listExtendWith (.ref s.heap.objs.size) (.ref it) .none) _ _ _
  refine wpAny_bind ?_
  unfold Builtin.List.listItems
  refine wpAny_bind (wpAny_seqItems g0 rfl (wpAny_pure ?_))
  show wpAny _ _ (updateSeq s.heap.objs.size (fun _ => #[]) >>= fun _ => letGo (#[] : Array Value).toList.reverse >>= fun _ => Builtin.List.listExtendWith (.ref s.heap.objs.size) (.ref it) .none) _ _ _
  refine wpAny_bind (wpAny_updateSeq g0 rfl ?_)
  have g1 := Heap.get?_update_self (Obj.mapSeq (fun _ => (#[] : Array Value))) g0 rfl
  have k1 : ∀ b o, s.heap.get? b = some o → ((s.heap.push { cls := .type "list", data := .seq #[] }).update s.heap.objs.size (Obj.mapSeq (fun _ => (#[] : Array Value)))).get? b = some o := fun b o e =>
    (Heap.get?_update_other _ _ (Nat.ne_of_gt (Heap.lt_size e))).trans (Heap.get?_push_of_some _ e)
  refine wpAny_bind (wpAny_letGo ?_)
  exact ext_rev ha (hr.at fun o e => k1 _ _ e) (hL.at fun o e => k1 _ _ e) n1 m1 m2 hz g1 fun h2 tk ac c2 kp e2 ia => ⟨rfl, q h2 tk ac c2 (fun b o hb e => kp b o (Nat.ne_of_lt (Heap.lt_size e)) hb (k1 b o e)) e2 ia⟩
end
def tListRev (K : PySem.W.Frag) (te : TE) : TE := fun σ H Q => te σ H fun v H1 => ∃ (a : Addr) (xs : List V), v = .ref a ∧ SqL K H1 a xs ∧ ∀ q, H1 q = none → Q (.ref q) (upd H1 q (.lst xs.reverse))
theorem pe_listRev {X : Cx} {e : Expr} {te : TE} {p p2 pos pos2 : Pos} (hc : X.calm = true) (hg : Gl X "list") (hm : X.mg "list" = none) (hg2 : Gl X "reversed") (hm2 : X.mg "reversed" = none) (he : PE X e te)
    (hs : starEach [e] X.env = (false, eval e X.env) :: starEach [] X.env) (hs2 : starEach [.Call (.Name "reversed" p2) [e] [] pos2] X.env = (false, eval (.Call (.Name "reversed" p2) [e] [] pos2) X.env) :: starEach [] X.env) :
    PE X (.Call (.Name "list" p) [.Call (.Name "reversed" p2) [e] [] pos2] [] pos) (tListRev X.K te) := by
  refine ⟨fun pins s σ H Q I h => ?_⟩
  refine Call_ (ld_blt I hg hm PyProof.Rows.boot_list (PyProof.Rows.callWith_type1 (args_cons (Call_ (ld_blt I hg2 hm2 PyProof.Rows.boot_reversed (PyProof.Rows.callWith_type1 (args_cons (thn (he.run pins s σ H _ I h) fun u s1 ⟨v, H1, I1, r1, q1⟩ =>
    args_nil ?_) hs) hs rfl))) hs2) hs2 rfl))
  obtain ⟨a, xs, ev, hq, q⟩ := q1
  subst ev
  obtain rfl : u = Value.ref a := r1
  obtain ⟨its, rv, p', hz⟩ := I1.list hq
  refine call_reversed_list p'.isList (args_nil ?_)
  have kp0 : ∀ b o, s1.heap.get? b = some o → (s1.heap.push (revObj a ((its.toArray.size : Int) - 1))).get? b = some o := fun b o e => Heap.get?_push_of_some _ e
  have J2 : Inv X pins σ H1 { s1 with heap := s1.heap.push (revObj a ((its.toArray.size : Int) - 1)) } := I1.kept (t' := s1.toks) kp0
  obtain ⟨f0, f1, f2, f3, f4, f5⟩ := I1.fpOk (H' := H1) (b := s1.heap.objs.size) (Nat.le_refl _) (I1.hok.fresh (Nat.le_refl _))
  have hl := p'.isList
  obtain ⟨ol, hol, _⟩ := id hl
  have hne : a ≠ s1.heap.objs.size := Nat.ne_of_lt (Heap.lt_size hol)
  have hn : its.toArray.size ≤ sizeLine := by rw [List.size_toArray, ← rv.length]; exact hz
  refine call_list_rev (s := { s1 with heap := s1.heap.push (revObj a ((its.toArray.size : Int) - 1)) }) (I1.ok.hd hc) ⟨_, Heap.get?_push_size _ rfl, rfl, rfl⟩ (hl.push _) hne hn fun h2 tk ac c2 hk e2 hi => ?_
  have hsz : s1.heap.objs.size < (s1.heap.push (revObj a ((its.toArray.size : Int) - 1))).objs.size := by rw [Heap.size_push]; exact Nat.lt_succ_self _
  -- the new list lies behind the iterator
  refine ⟨.ref (s1.heap.push (revObj a ((its.toArray.size : Int) - 1))).objs.size, upd H1 (s1.heap.push (revObj a ((its.toArray.size : Int) - 1))).objs.size (.lst xs.reverse), ?_, rfl, q _ (I1.hok.fresh (Nat.le_of_lt hsz))⟩
  exact I1.laid (t' := tk) (fun b o e => hk b o (Nat.ne_of_lt (Heap.lt_size e)) (kp0 b o e)) (Nat.le_of_lt hsz) (show ObjOk X.prog X.w _ _ _ (.lst xs.reverse) from ⟨by rw [List.length_reverse]; exact hz, ac.toList, c2, RT.vals_rev rv hi, by rw [Array.toArray_toList]; exact e2⟩)
section
variable {c : Ctx} {env : En} {G : List Str} {pos p p2 pos2 : Pos} {e : Expr}
theorem df_rev {P : List PD → Prop} (ok : COk c) (bi : BiOk c.mg) (hG : c.G = G) (hg : ("list" : Str) ∈ G) (hg2 : ("reversed" : Str) ∈ G) (h : DE c env e fun w => ∃ ds, w = .d (.list ds) ∧ P ds.reverse)
    (he : ∀ X : Cx, starEach [e] X.env = (false, eval e X.env) :: starEach [] X.env := by intro _; kernel_rfl) (he2 : ∀ X : Cx, starEach [.Call (.Name "reversed" p2) [e] [] pos2] X.env = (false, eval (.Call (.Name "reversed" p2) [e] [] pos2) X.env) :: starEach [] X.env := by intro _; kernel_rfl) :
    DF c env (.Call (.Name "list" p) [.Call (.Name "reversed" p2) [e] [] pos2] [] pos) P := by
  intro X hX B Z H S fp σ E Q q
  refine oE (pe_listRev (ok.calm X hX) (ok.gl X hX _ (hG ▸ hg)) (ok.mgn hX bi.list) (ok.gl X hX _ (hG ▸ hg2)) (ok.mgn hX bi.reversed) pE (he X) (he2 X)) ?_
  refine h X hX B Z H S fp σ E _ fun w v H1 S1 ⟨ds, ew, hP⟩ E1 s1 r1 => ?_
  subst ew
  obtain ⟨a1, xs, rfl, e2, e3⟩ := Dt.list_inv (S := S1) r1
  exact ⟨a1, xs, rfl, Or.inl (Or.inl (E1.sub _ _ e2)), fun l hl => q _ l _ _ S1 hP (E1.newH hl) s1 (E1.lone hl) upd_same e3.reverse⟩
end
/-! ## 22. x = [.. for .. in range(..)]; a loop over a mailbox; a new pool -/
section
variable {c : Ctx} {env env' : En} {N G0 Vs Ls G Os : List Str} {pos spos p p0 : Pos} {κ : Kt} {scope sc : Scope} {own : List (Str × Nat)} {tg elt iter e : Expr} {ifs : List Expr} {P : List PD → Prop} {x : Str} {body : List Stmt}
theorem ds_setLcR {p' : Pos} (ok : COk c) (bi : BiOk c.mg) (hG : c.G = G0) (hg : ("range" : Str) ∈ G0) (hsc : ∀ X, c.F X → X.env.scope = sc) (hN : c.N = N) {Lz : List Str} (hm : x ∈ N) (hLo : ∀ y ∈ Lz, c.Lo y) (hl0 : x ∈ Lz) (Vs Os G : List Str) (own : List (Str × Nat)) (hb : blkB N sc scope own Vs Os G tg = true) (hlx : (match sc.kind with | .function => true | _ => false) && loclB sc x && (p'.line == pos.line) && !(scope.names.any fun (n, k) => n == x && (k == .local || k == .cell)) = true) (m : Mk Vs Os N env env')
    (h : DE c env e fun w => ∃ n : Nat, w = .d (.int n) ∧ n < 1000000 ∧ LcJ (blkCtx c scope Vs Os G) env' tg ifs elt ((List.range n).map fun (i : Nat) => .int (i : Int)) fun es => ∃ env2, Up N env x (.l es) env2 ∧ κ.nx env2) (hs : ∀ (X : Cx) x, foldedSetIterable (.Call (.Name "range" p0) [e] [] p) X.env x = pure x := by intro _ _; kernel_rfl) (he : ∀ X : Cx, starEach [e] X.env = [(false, eval e X.env)] := by intro _; kernel_rfl) (he2 : ∀ X : Cx, starEach (e :: []) X.env = (false, eval e X.env) :: starEach [] X.env := by intro _; kernel_rfl) :
    DS c env (.Assign [.Name x p'] (.ListComp elt [⟨tg, .Call (.Name "range" p0) [e] [] p, ifs, 0⟩] scope pos) spos) κ := by
  intro X hX B Z H S fp σ E D k
  obtain ⟨b1, b2, b3, b4⟩ := blkB_ok hb
  have hNX : X.N = N := by rw [ok.N X hX, hN]
  have b1' : BlkOk X.N X.env.scope scope own := by rw [hNX, hsc X hX]; exact b1
  simp only [Bool.and_eq_true] at hlx
  obtain ⟨⟨⟨l0, l1⟩, l2⟩, l3⟩ := hlx
  have hk : X.env.scope.kind = .function := by
    rw [hsc X hX]
    revert l0
    cases sc.kind <;> intro l0 <;> first | rfl | cases l0
  have hy : X.env.scope.names.lookup x = some .local := by rw [hsc X hX]; exact loclB_ok l1
  have hl := hLo x hl0
  obtain ⟨i, hi, hi2⟩ := List.getElem_of_mem hm
  have hi : N[i]? = some x := by rw [List.getElem?_eq_getElem hi, hi2]
  have nd : X.N.Nodup := by rw [hNX, ← hN]; exact ok.nd
  have sw : swapsWith (.ListComp elt [⟨tg, .Call (.Name "range" p0) [e] [] p, ifs, 0⟩] scope pos) (some (.Name x p')) spos.line X.env = pure true := sw_true hk hy l2 (by simpa using l3)
  refine oS (ps_setLc (i := i) (ok.calm X hX) nd (by rw [hNX]; exact hi) hy sw (pi_range1 (ok.gl X hX _ (hG ▸ hg)) (ok.mgn hX bi.range) (pa_cons pE pa_nil (he2 X)) (he X)) b1' (bG_ok) (bT_ok) (bE_ok) (hs X)) ?_
  refine h X hX B Z H S fp σ E _ fun w v H1 S1 ⟨n, ew, hn, hJ⟩ E1 s1 r1 => ?_
  subst ew
  refine ⟨n, by rw [Dt.int_inv (S := S1) r1], by omega, by omega, fun D0 hD => ?_⟩
  have dt : DtAll S1 ((List.range n).map fun (i : Nat) => V.int (i : Int)) ((List.range n).map fun (i : Nat) => .int (i : Int)) := by
    have : ∀ l : List Nat, DtAll S1 (l.map fun (i : Nat) => V.int (i : Int)) (l.map fun (i : Nat) => .int (i : Int)) := by
      intro l
      induction l with
      | nil => exact .nil
      | cons a l ih => exact .cons (.int _) ih
    exact this _
  obtain ⟨Pv, p0', p1, p2, p3⟩ := lc_step ok hX hsc b2 hN b3 b1.ix E1 m b4 dt hJ hD
  have hlen : ((List.range n).map fun (i : Nat) => V.int (i : Int)).length = n := by simp
  rw [hlen] at p3
  show ∃ W : Nat → Nat → Hp → Prop, _
  refine lc_range (lo := 0) (n := n) Pv p0' (fun i H' hin hp => ?_) (Qd := fun H' => gName i (.ref D0) σ H' D.nx) fun H' hp => ?_
  · refine p2 i _ H' ?_ hp
    rw [List.getElem?_map, List.getElem?_range hin, Int.zero_add]
    rfl
  · obtain ⟨S', acc, es, ⟨env2, u, hq⟩, g2, g3, g4, g5, g6⟩ := p3 H' hp
    obtain ⟨j, j1, j2, rfl⟩ := u.get
    obtain rfl : i = j := nodup_ix (by rw [← hN]; exact ok.nd) hi j1
    exact k.nx _ H' S' _ _ hq (g2.setO ok (s := .l es) (l := [D0]) (by rw [hN]; exact j1) (ok.lov x hl) j2 ⟨D0, acc, rfl, g5, g6, rfl⟩ fun a ha => by
      obtain rfl : a = D0 := by simpa using ha
      exact ⟨g4, _, g5, rfl⟩) (s1.trans g3)
theorem KvB.same {H H' S S' : Hp} {k : Pl} {a : Addr} {d : PD} : ∀ {ps : List (Pl × PD)} {qs qs' : List (List Key × V)} {as : List Addr}, KvB H S ps qs as → KvB H' S' ps qs' as → lkp ps k = some d → valV qs (pk k) = some (.ref a) → ∃ vs ds, H' a = some (.lst vs) ∧ d = .list ds ∧ DtAll S' vs ds
  | [], _, _, _, _, _, h, _ => by simp [lkp] at h
  | p :: ps, [], _, as, z, _, _, _ => by cases as <;> exact z.elim
  | p :: ps, _ :: _, [], as, _, z, _, _ => by cases as <;> exact z.elim
  | p :: ps, _ :: _, _ :: _, [], z, _, _, _ => z.elim
  | p :: ps, q :: qs, q' :: qs', b :: as, ⟨⟨z1, z2, _⟩, z6⟩, ⟨⟨y1, y2, vs, ds, y3, y4, y5⟩, y6⟩, h, g => by
    by_cases e : p.1 = k
    · have e2 : q.1 = pk k := by rw [z1, e]
      rw [valV_pos e2, z2] at g
      cases g
      have hd : d = p.2 := by simpa [lkp, e] using h.symm
      exact ⟨vs, ds, y3, hd.trans y4, y5⟩
    · have e2 : ¬ q.1 = pk k := fun h => e (pk_inj.mp (z1.symm.trans h))
      rw [valV_neg e2] at g
      exact KvB.same z6 y6 (by rw [← h]; simp [lkp, e]) g
/-- for tg in E[i], E the mailboxes: the body leaves the mailbox as it is -/
theorem ds_forB {o i : Expr} {A : Ad} {co : Co} {p4 : Pos} (ok : COk c) (hN : c.N = N) (k : OKd) (hx : LkO N env x (ow k A co)) (hp : DP c env o A .b)
    (h : DE c env i fun u => ∃ y z : Int, u = .d (.tuple [.int y, .int z]) ∧ ∃ ds, lkp co.b (y, z) = some (.list ds) ∧
      ∃ Inv : List PD → En → Prop, Inv ds env ∧ (∀ rest env1, Inv rest env1 → ∃ k' co', LkO N env1 x (ow k' A co') ∧ co'.b = co.b) ∧ (∀ d rest env1, (∃ pre, ds = pre ++ d :: rest) → Inv (d :: rest) env1 → imm d = true ∧ DG c env1 tg d fun env2 => DSs c env2 body ⟨Inv rest, κ.rt, κ.rl, κ.nx, Inv rest⟩) ∧ ∀ env1, Inv [] env1 → κ.nx env1)
    (hs : ∀ (X : Cx) x, foldedSetIterable (.Subscript o i p4) X.env x = pure x := by intro _ _; kernel_rfl) (hb : ∀ X : Cx, PlainIx i := by intro _ _ _; kernel_rfl) : DS c env (.For tg (.Subscript o i p4) body [] pos) κ := fun X hX B Z H S fp σ E D κ' => by
  refine oS (ps_for (ok.own X hX) (ok.calm X hX) (pi_list (pe_ix dict_sub pE pE (hb X))) pG pSs (hs X)) ?_
  obtain ⟨j, j1, j2⟩ := hx.get
  refine hp X hX B Z H S fp σ E _ ?_
  refine h X hX B Z H S fp σ E _ fun u v2 H2 S2 ⟨y, z, e2, ds, hd, J, j0, jo, js, jd⟩ E2 s2 r2 => ?_
  subst e2
  have k1 := κ'.mono s2
  obtain ⟨q1, q2, nd, q4, q5⟩ := E2.ownf j2
  obtain ⟨ks, w, vs, ds', f1, _, f2, f3, f4, f5, f6, _⟩ := q2.chgB nd hd
  cases f5
  obtain ⟨l2, xs, rfl, el, r3⟩ := Dt.tup_inv (S := S2) r2
  have hxs : xs = (pk (y, z)).map kV := by
    cases r3 with
    | cons m1 m2 =>
      cases m2 with
      | cons m3 m4 =>
        cases m4
        rw [Dt.int_inv m1, Dt.int_inv m3] <;> rfl
  subst hxs
  have g := DGet.t (k := pk (y, z)) f1 (E2.sub _ _ el)
  rw [f3] at g
  refine ⟨A.b, .ref w, rfl, ok.hu1 hX, g, ?_⟩
  refine ⟨w, rfl, ⟨vs, Or.inl (Or.inl f4)⟩, ?_⟩
  -- the mailbox stays where it is
  have hK : KvB H2 S2 co.b ks A.bl := by
    obtain ⟨ks2, g1, g2, _⟩ := q2.b
    rw [f1] at g1
    cases g1
    exact g2
  refine ⟨fun i m σ' H' => m = ds.length - i ∧ i ≤ ds.length ∧ ∃ env' S' fp', J (ds.drop i) env' ∧ ER c B Z H' S' fp' σ' env' ∧ Same S2 S', ⟨_, rfl, Nat.zero_le _, env, S2, fp, j0, E2, Same.refl _⟩, ?_⟩
  rintro i m σ' H' ⟨rfl, hi, env', S', fp', hJ, E', s'⟩
  obtain ⟨k', co', lo, ec⟩ := jo _ env' hJ
  obtain ⟨j', y1, y2⟩ := lo.get
  obtain ⟨_, o2, _, _, _⟩ := E'.ownf y2
  obtain ⟨ks', y3, y4, _⟩ := o2.b
  rw [ec] at y4
  obtain ⟨vs', ds', y5, y6, y7⟩ := KvB.same hK y4 hd f3
  cases y6
  by_cases hlt : i < ds.length
  · refine .inr ⟨⟨vs', vs'[i]'(by rw [y7.length]; exact hlt), Or.inl (Or.inl y5), by simp [y7.length, hlt]⟩, fun σ2 H2 => ∃ env' S' fp', J (ds.drop (i + 1)) env' ∧ ER c B Z H2 S' fp' σ2 env' ∧ Same S2 S', fun σ2 H3 hN => ⟨_, by omega, rfl, hlt, hN⟩, fun x H3 hy => ?_⟩
    obtain ⟨e3, hy⟩ := hy
    subst e3
    have hx := hy vs' (Or.inl (Or.inl y5))
    obtain ⟨d, hd', hr⟩ := y7.get' hx
    have hdr : ds.drop i = d :: ds.drop (i + 1) := by
      rw [List.drop_eq_getElem_cons hlt]
      rw [List.getElem?_eq_getElem hlt] at hd'
      cases hd'
      rfl
    rw [hdr] at hJ
    refine (js d (ds.drop (i + 1)) env' ⟨ds.take i, by rw [← hdr, List.take_append_drop]⟩ hJ).2 X hX B Z H3 S' fp' σ' x E' hr _ fun env2 σ2 hb E2' _ => ?_
    exact hb X hX B Z H3 S' fp' σ2 E2' _ ((k1.mono s').loop fun env3 H4 S3 fp3 σ3 hJ3 E3 s3 => ⟨env3, S3, fp3, hJ3, E3, s'.trans s3⟩)
  · have e : i = ds.length := by omega
    subst e
    rw [List.drop_length] at hJ
    exact .inl ⟨⟨vs', Or.inl (Or.inl y5), by rw [y7.length]; exact Nat.le_refl _⟩, k1.nx env' H' S' fp' σ' (jd env' hJ) E' s'⟩
/-- a new pool: what follows may draw -/
theorem ds_newP {st : Stmt} {sts : List Stmt} (h : DSs c env (st :: sts) κ) : DSs c env (st :: sts) κ := h
end
/-! ## 23. Reading a list of one's own -/
section
variable {c : Ctx} {env : En} {N G : List Str} {pos p p1 p2 : Pos} {P : W → Prop} {R : Bool → Prop} {a b e : Expr} {x : Str} {ds : List PD}
theorem de_ixL (ok : COk c) (hN : c.N = N) (hx : LkO N env x (.l ds)) (h : DE c env b fun y => ∃ n d, y = .d (.int n) ∧ atI ds n = some d ∧ P (.d d)) (hb : ∀ X : Cx, PlainIx b := by intro _ _ _; kernel_rfl) : DE c env (.Subscript (.Name x p) b pos) P := by
  intro X hX B Z H S fp σ E Q q
  obtain ⟨i, i1, i2⟩ := hx.get
  have vv := E.vis i _ x i2 (by rw [hN]; exact i1)
  obtain ⟨v, h3, l, vs, rfl, h4, h5, h6⟩ := E.slot i _ i2
  refine oE (pe_ix ix_list (ok.pvar hX (p := p) (by rw [hN]; exact i1) vv) pE (hb X)) ?_
  refine ⟨_, h3, ?_⟩
  refine h X hX B Z H S fp σ E _ fun y u H2 S2 ⟨n, d, e1, e2, hP⟩ E2 s2 r2 => ?_
  subst e1
  obtain rfl := Dt.int_inv (S := S2) r2
  obtain ⟨v', g3, l', vs', e3, g4, g5, g6⟩ := E2.slot i _ i2
  rw [h3] at g3
  cases g3
  cases e3
  obtain ⟨z, e4, e5⟩ := atI_all g5 e2
  exact ⟨l, vs', n, z, rfl, rfl, Or.inl (Or.inl g4), e4, q _ z _ _ hP E2 s2 e5⟩
theorem de_lenL (ok : COk c) (bi : BiOk c.mg) (hN : c.N = N) (hG : c.G = G) (hg : ("len" : Str) ∈ G) (hx : LkO N env x (.l ds)) (h : P (.d (.int ds.length)))
    (he : ∀ X : Cx, starEach (Expr.Name x p1 :: []) X.env = (false, eval (Expr.Name x p1) X.env) :: starEach [] X.env := by intro _; kernel_rfl) (hpl : ∀ X : Cx, (backTo pos (starEach [] X.env)).any (·.1) = false := by intro _; kernel_rfl) : DE c env (.Call (.Name "len" p) [.Name x p1] [] pos) P := by
  intro X hX B Z H S fp σ E Q q
  obtain ⟨i, i1, i2⟩ := hx.get
  have vv := E.vis i _ x i2 (by rw [hN]; exact i1)
  obtain ⟨v, h3, l, vs, rfl, h4, h5, h6⟩ := E.slot i _ i2
  refine oE (pe_callB call_len_seq (ok.gl X hX _ (hG ▸ hg)) (ok.mgn hX bi.len) boot_len (pa_cons (ok.pvar hX (p := p1) (by rw [hN]; exact i1) vv) pa_nil (he X)) (by decide) (by decide) (he X) (hpl X)) ?_
  refine ⟨_, h3, ?_⟩
  exact ⟨l, vs, rfl, .inl (Or.inl (Or.inl h4)), by rw [h5.length]; exact q (.d (.int ds.length)) _ H S h E (Same.refl S) (Dt.int _)⟩
theorem cr_notinL (ok : COk c) (hN : c.N = N) (hx : LkO N env x (.l ds)) (h : DE c env a fun w => ∃ d, w = .d d ∧ SeqAt.shaped d = true ∧ SeqAt.shaped (.list ds) = true ∧ R (!ds.any fun z => PyData.eqv z d)) : CR c env .NotIn a (.Name x p) R := by
  intro X hX
  refine ⟨InR (X.A.units + 1 < cLine) X.K true, fun pins s σ H x y v u Q I rx ry z => (dict_notin.or (op_notIn_seq.or (op_notInD (ok.hu65 hX)))) pins s σ H x y v u Q I rx ry z, ?_⟩
  intro B Z H S fp σ E Q q
  refine h X hX B Z H S fp σ E _ fun w v H1 S1 ⟨d, e1, h1, h2, hR⟩ E1 s1 r1 => ?_
  subst e1
  obtain ⟨i, i1, i2⟩ := hx.get
  have vv := E1.vis i _ x i2 (by rw [hN]; exact i1)
  obtain ⟨v', h3, l, vs, rfl, h4, h5, h6⟩ := E1.slot i _ i2
  refine oE (ok.pvar hX (p := p) (by rw [hN]; exact i1) vv) ⟨_, h3, ?_⟩
  exact .inr (.inr ⟨d, ds, Dt.dp E1.sub d v r1, .lst (Or.inl (Or.inl h4)) (DtAll.dp E1.sub _ _ h5), h1, h2, q _ H1 S1 hR E1 s1⟩)
/-- a list of one's own, as a truth -/
theorem dt_truthL (ok : COk c) (hN : c.N = N) (hx : LkO N env x (.l ds)) (h : R (!ds.isEmpty)) : DT c env (.Name x p) R := by
  intro X hX B Z H S fp σ E Q q
  obtain ⟨i, i1, i2⟩ := hx.get
  have vv := E.vis i _ x i2 (by rw [hN]; exact i1)
  obtain ⟨v, h3, l, vs, rfl, h4, h5, h6⟩ := E.slot i _ i2
  refine oT (pt_truth (ok.pvar hX (p := p) (by rw [hN]; exact i1) vv) (by intro _; rfl)) ?_
  refine ⟨_, h3, !ds.isEmpty, .inl ⟨vs, Or.inl (Or.inl h4), ?_⟩, q _ H S h E (Same.refl S)⟩
  cases h5 <;> rfl
end
theorem add_int {i j : Int} : addW (.d (.int i)) (.d (.int j)) = some (.d (.int (i + j))) := rfl
section
variable {c : Ctx} {env : En} {N G : List Str} {pos p p1 p2 : Pos} {P : W → Prop} {R : Bool → Prop} {a b e : Expr} {x : Str} {w : W} {κ : Kt}
theorem de_ixR (ok : COk c) (hN : c.N = N) (hx : Lk N env x w) (h : DE c env b fun y => ∃ r, ixW w y = some r ∧ P r) (hb : ∀ X : Cx, PlainIx b := by intro _ _ _; kernel_rfl) : DE c env (.Subscript (.Name x p) b pos) P := de_ix ok (de_var ok hN hx h) hb
theorem de_lenR (ok : COk c) (bi : BiOk c.mg) (hN : c.N = N) (hG : c.G = G) (hg : ("len" : Str) ∈ G) (hx : Lk N env x w) (h : ∃ n, lenW w = some n ∧ P (.d (.int n)))
    (he : ∀ X : Cx, starEach (Expr.Name x p1 :: []) X.env = (false, eval (Expr.Name x p1) X.env) :: starEach [] X.env := by intro _; kernel_rfl) (hpl : ∀ X : Cx, (backTo pos (starEach [] X.env)).any (·.1) = false := by intro _; kernel_rfl) : DE c env (.Call (.Name "len" p) [.Name x p1] [] pos) P := de_len ok bi hG hg (de_var ok hN hx h) he hpl
theorem dt_truthR (ok : COk c) (hN : c.N = N) (hx : Lk N env x w) (h : ∃ k, truW w = some k ∧ R k) : DT c env (.Name x p) R := dt_truth ok (de_var ok hN hx h) (by intro _ _; rfl)
theorem ds_retV (ok : COk c) (hN : c.N = N) (hx : Lk N env x w) (h : κ.rt w env) : DS c env (.Return (some (.Name x p)) pos) κ := ds_ret (de_var ok hN hx h)
end
/-! ## 24. One's own state, by its words -/
section
variable {c : Ctx} {env envz : En} {N G : List Str} {pos p p1 p2 p3 p4 p' : Pos} {κ : Kt} {e i : Expr} {x f : Str} {A : Ad} {co : Co} {s : Sel} {tab : List (Str × PD)} {n : Int}
theorem DF.imp {P P' : List PD → Prop} (h : DF c env e P) (i : ∀ ds, P ds → P' ds) : DF c env e P' := fun X hX B Z H S fp σ E Q q => h X hX B Z H S fp σ E Q fun ds p vs H' S' hp => q ds p vs H' S' (i ds hp)
theorem lg_put (ok : COk c) (ld : LdOk c.K c.C) (hN : c.N = N) (hx : LkO N env x (.olg A ⟨tab, n, co⟩)) (hf : SelF f s) (hs' : s = .t ∨ s = .m) (z : Fz env envz)
    (h : DE c envz e fun w => immW w = true ∧ ∃ d, w = .d d ∧ DE c envz i fun u => immW u = true ∧ ∃ y z : Int, u = .d (.tuple [.int y, .int z]) ∧ (co.t.length < 1000000 ∧ co.m.length < 1000000) ∧ ∃ env', Up N env x (.olg A ⟨tab, n, co.put s (y, z) d⟩) env' ∧ κ.nx env')
    (hs : ∀ X : Cx, swapsWith e (some (.Subscript (.Attribute (.Name x p) f p2) i p')) pos.line X.env = pure false := by intro _; kernel_rfl) (hb : ∀ X : Cx, attributeBase (.Name x p) f X.env (eval (.Name x p) X.env) = eval (.Name x p) X.env := by intro _; kernel_rfl) : DS c env (.Assign [.Subscript (.Attribute (.Name x p) f p2) i p'] e pos) κ :=
  ds_put ok hN (.lg tab n) hx s hs' (dp_lg ok ld hf hN hx hb) (de_view z (h.imp fun w ⟨h1, d, h2, h3⟩ => ⟨h1, d, h2, de_view z (h3.imp fun u ⟨g1, y, zz, g2, g3, g4⟩ => ⟨g1, y, zz, g2, g3.1, g3.2, g4⟩)⟩)) hs
theorem st_put {j} (ok : COk c) (s : Sel) (hn : n = selI s) (hN : c.N = N) (hx : LkO N env x (.ost A co)) (hs' : s = .t ∨ s = .m) (z : Fz env envz)
    (h : DE c envz e fun w => immW w = true ∧ ∃ d, w = .d d ∧ DE c envz i fun u => immW u = true ∧ ∃ y z : Int, u = .d (.tuple [.int y, .int z]) ∧ (co.t.length < 1000000 ∧ co.m.length < 1000000) ∧ ∃ env', Up N env x (.ost A (co.put s (y, z) d)) env' ∧ κ.nx env')
    (hs : ∀ X : Cx, swapsWith e (some (.Subscript (.Subscript (.Name x p) (.Constant (.int n) j p2) p3) i p')) pos.line X.env = pure false := by intro _; kernel_rfl) : DS c env (.Assign [.Subscript (.Subscript (.Name x p) (.Constant (.int n) j p2) p3) i p'] e pos) κ :=
  ds_put ok hN .st hx s hs' (dp_st ok s hN hx hn) (de_view z (h.imp fun w ⟨h1, d, h2, h3⟩ => ⟨h1, d, h2, de_view z (h3.imp fun u ⟨g1, y, zz, g2, g3, g4⟩ => ⟨g1, y, zz, g2, g3.1, g3.2, g4⟩)⟩)) hs
theorem lg_putB (ok : COk c) (ld : LdOk c.K c.C) (hN : c.N = N) (hx : LkO N env x (.olg A ⟨tab, n, co⟩)) (z : Fz env envz)
    (h : DF c envz e fun ds => immAll ds = true ∧ DE c envz i fun u => immW u = true ∧ ∃ y z : Int, u = .d (.tuple [.int y, .int z]) ∧ co.b.length < 1000000 ∧ ∀ bl, ∃ env', Up N env x (.olg { A with bl := bl } ⟨tab, n, { co with b := pt co.b (y, z) (.list ds) }⟩) env' ∧ κ.nx env')
    (hs : ∀ X : Cx, swapsWith e (some (.Subscript (.Attribute (.Name x p) "_boxes" p2) i p')) pos.line X.env = pure false := by intro _; kernel_rfl) (hb : ∀ X : Cx, attributeBase (.Name x p) "_boxes" X.env (eval (.Name x p) X.env) = eval (.Name x p) X.env := by intro _; kernel_rfl) : DS c env (.Assign [.Subscript (.Attribute (.Name x p) "_boxes" p2) i p'] e pos) κ :=
  ds_putB ok hN (.lg tab n) hx (dp_lg ok ld .b hN hx hb) (df_view z (DF.imp h fun ds ⟨h1, h3⟩ => ⟨h1, de_view z h3⟩)) hs
theorem st_putB {j} (ok : COk c) (hN : c.N = N) (hx : LkO N env x (.ost A co)) (z : Fz env envz)
    (h : DF c envz e fun ds => immAll ds = true ∧ DE c envz i fun u => immW u = true ∧ ∃ y z : Int, u = .d (.tuple [.int y, .int z]) ∧ co.b.length < 1000000 ∧ ∀ bl, ∃ env', Up N env x (.ost { A with bl := bl } { co with b := pt co.b (y, z) (.list ds) }) env' ∧ κ.nx env')
    (hs : ∀ X : Cx, swapsWith e (some (.Subscript (.Subscript (.Name x p) (.Constant (.int 2) j p2) p3) i p')) pos.line X.env = pure false := by intro _; kernel_rfl) : DS c env (.Assign [.Subscript (.Subscript (.Name x p) (.Constant (.int 2) j p2) p3) i p'] e pos) κ :=
  ds_putB ok hN .st hx (dp_st ok .b hN hx rfl) (df_view z (DF.imp h fun ds ⟨h1, h3⟩ => ⟨h1, de_view z h3⟩)) hs
theorem lg_app (ok : COk c) (ld : LdOk c.K c.C) (hN : c.N = N) (hx : LkO N env x (.olg A ⟨tab, n, co⟩)) (hf : SelF f s) (hs' : s = .f ∨ s = .o) (z : Fz env envz)
    (h : DE c envz e fun w => immW w = true ∧ ∃ d, w = .d d ∧ (co.f.length < 1000000 ∧ co.o.length < 1000000) ∧ ∃ env', Up N env x (.olg A ⟨tab, n, co.app s d⟩) env' ∧ κ.nx env')
    (hs : ∀ X : Cx, ∀ t u, PE X e t → PE X (.Attribute (.Name x p) f p4) u → PE X (.Call (.Attribute (.Attribute (.Name x p) f p4) "append" p2) [e] [] p3) (tBM X.K "list" rAppend u (tCons t tNil)) := by intro _ _ _ h g; exact pe_bm PySem.F.plainAttrs_list PySem.F.slot_list_append PySem.F.type_list_append mt_append g (pa_cons h pa_nil))
    (he : ∀ X : Cx, ∀ t, PE X (.Call (.Attribute (.Attribute (.Name x p) f p4) "append" p2) [e] [] p3) t → PS X (.Expr (.Call (.Attribute (.Attribute (.Name x p) f p4) "append" p2) [e] [] p3) pos) (tDrop t) := by intro _ _ h; exact ps_expr h) (hb : ∀ X : Cx, attributeBase (.Name x p) f X.env (eval (.Name x p) X.env) = eval (.Name x p) X.env := by intro _; kernel_rfl) :
    DS c env (.Expr (.Call (.Attribute (.Attribute (.Name x p) f p4) "append" p2) [e] [] p3) pos) κ :=
  ds_appC (p1 := p4) ok hN (.lg tab n) hx s hs' (dp_lg ok ld hf hN hx hb) (de_view z (h.imp fun w ⟨h1, d, h2, h3, h4⟩ => ⟨h1, d, h2, h3.1, h3.2, h4⟩)) hs he
theorem st_app {j} (ok : COk c) (s : Sel) (hn : n = selI s) (hN : c.N = N) (hx : LkO N env x (.ost A co)) (hs' : s = .f ∨ s = .o) (z : Fz env envz)
    (h : DE c envz e fun w => immW w = true ∧ ∃ d, w = .d d ∧ (co.f.length < 1000000 ∧ co.o.length < 1000000) ∧ ∃ env', Up N env x (.ost A (co.app s d)) env' ∧ κ.nx env')
    (hs : ∀ X : Cx, ∀ t u, PE X e t → PE X (.Subscript (.Name x p) (.Constant (.int n) j p1) p4) u → PE X (.Call (.Attribute (.Subscript (.Name x p) (.Constant (.int n) j p1) p4) "append" p2) [e] [] p3) (tBM X.K "list" rAppend u (tCons t tNil)) := by intro _ _ _ h g; exact pe_bm PySem.F.plainAttrs_list PySem.F.slot_list_append PySem.F.type_list_append mt_append g (pa_cons h pa_nil))
    (he : ∀ X : Cx, ∀ t, PE X (.Call (.Attribute (.Subscript (.Name x p) (.Constant (.int n) j p1) p4) "append" p2) [e] [] p3) t → PS X (.Expr (.Call (.Attribute (.Subscript (.Name x p) (.Constant (.int n) j p1) p4) "append" p2) [e] [] p3) pos) (tDrop t) := by intro _ _ h; exact ps_expr h) :
    DS c env (.Expr (.Call (.Attribute (.Subscript (.Name x p) (.Constant (.int n) j p1) p4) "append" p2) [e] [] p3) pos) κ :=
  ds_appC (p1 := p4) ok hN .st hx s hs' (dp_st ok s hN hx hn) (de_view z (h.imp fun w ⟨h1, d, h2, h3, h4⟩ => ⟨h1, d, h2, h3.1, h3.2, h4⟩)) hs he
theorem lg_appB (ok : COk c) (ld : LdOk c.K c.C) (hN : c.N = N) (hx : LkO N env x (.olg A ⟨tab, n, co⟩)) (z : Fz env envz)
    (h : DE c envz i fun u => immW u = true ∧ ∃ y z : Int, u = .d (.tuple [.int y, .int z]) ∧ ∃ ds, lkp co.b (y, z) = some (.list ds) ∧ DE c envz e fun w => ∃ d, w = .d d ∧ imm d = true ∧ ds.length < 1000000 ∧ ∃ env', Up N env x (.olg A ⟨tab, n, { co with b := pt co.b (y, z) (.list (ds ++ [d])) }⟩) env' ∧ κ.nx env')
    (hs : ∀ X : Cx, ∀ t u, PE X e t → PE X (.Subscript (.Attribute (.Name x p) "_boxes" p') i p4) u → PE X (.Call (.Attribute (.Subscript (.Attribute (.Name x p) "_boxes" p') i p4) "append" p2) [e] [] p3) (tBM X.K "list" rAppend u (tCons t tNil)) := by intro _ _ _ h g; exact pe_bm PySem.F.plainAttrs_list PySem.F.slot_list_append PySem.F.type_list_append mt_append g (pa_cons h pa_nil))
    (he : ∀ X : Cx, ∀ t, PE X (.Call (.Attribute (.Subscript (.Attribute (.Name x p) "_boxes" p') i p4) "append" p2) [e] [] p3) t → PS X (.Expr (.Call (.Attribute (.Subscript (.Attribute (.Name x p) "_boxes" p') i p4) "append" p2) [e] [] p3) pos) (tDrop t) := by intro _ _ h; exact ps_expr h) (hb : ∀ X : Cx, PlainIx i := by intro _ _ _; kernel_rfl) (hb2 : ∀ X : Cx, attributeBase (.Name x p) "_boxes" X.env (eval (.Name x p) X.env) = eval (.Name x p) X.env := by intro _; kernel_rfl) :
    DS c env (.Expr (.Call (.Attribute (.Subscript (.Attribute (.Name x p) "_boxes" p') i p4) "append" p2) [e] [] p3) pos) κ :=
  ds_appB (p1 := p4) ok hN (.lg tab n) hx (dp_lg ok ld .b hN hx hb2) (de_view z (h.imp fun u ⟨h1, y, zz, h2, ds, h3, h4⟩ => ⟨h1, y, zz, h2, ds, h3, envz, z, h4⟩)) hs he hb
theorem st_appB {j} (ok : COk c) (hN : c.N = N) (hx : LkO N env x (.ost A co)) (z : Fz env envz)
    (h : DE c envz i fun u => immW u = true ∧ ∃ y z : Int, u = .d (.tuple [.int y, .int z]) ∧ ∃ ds, lkp co.b (y, z) = some (.list ds) ∧ DE c envz e fun w => ∃ d, w = .d d ∧ imm d = true ∧ ds.length < 1000000 ∧ ∃ env', Up N env x (.ost A { co with b := pt co.b (y, z) (.list (ds ++ [d])) }) env' ∧ κ.nx env')
    (hs : ∀ X : Cx, ∀ t u, PE X e t → PE X (.Subscript (.Subscript (.Name x p) (.Constant (.int 2) j p1) p') i p4) u → PE X (.Call (.Attribute (.Subscript (.Subscript (.Name x p) (.Constant (.int 2) j p1) p') i p4) "append" p2) [e] [] p3) (tBM X.K "list" rAppend u (tCons t tNil)) := by intro _ _ _ h g; exact pe_bm PySem.F.plainAttrs_list PySem.F.slot_list_append PySem.F.type_list_append mt_append g (pa_cons h pa_nil))
    (he : ∀ X : Cx, ∀ t, PE X (.Call (.Attribute (.Subscript (.Subscript (.Name x p) (.Constant (.int 2) j p1) p') i p4) "append" p2) [e] [] p3) t → PS X (.Expr (.Call (.Attribute (.Subscript (.Subscript (.Name x p) (.Constant (.int 2) j p1) p') i p4) "append" p2) [e] [] p3) pos) (tDrop t) := by intro _ _ h; exact ps_expr h) (hb : ∀ X : Cx, PlainIx i := by intro _ _ _; kernel_rfl) :
    DS c env (.Expr (.Call (.Attribute (.Subscript (.Subscript (.Name x p) (.Constant (.int 2) j p1) p') i p4) "append" p2) [e] [] p3) pos) κ :=
  ds_appB (p1 := p4) ok hN .st hx (dp_st ok .b hN hx rfl) (de_view z (h.imp fun u ⟨h1, y, zz, h2, ds, h3, h4⟩ => ⟨h1, y, zz, h2, ds, h3, envz, z, h4⟩)) hs he hb
theorem lg_setF (ok : COk c) (ld : LdOk c.K c.C) (hN : c.N = N) (hx : LkO N env x (.olg A ⟨tab, n, co⟩)) (z : Fz env envz)
    (h : DE c envz e fun w => immW w = true ∧ ∃ d, w = .d d ∧ DE c envz i fun u => immW u = true ∧ ∃ (m : Int) (j : Nat), u = .d (.int m) ∧ ixN co.f.length m = some j ∧ ∃ env', Up N env x (.olg A ⟨tab, n, { co with f := co.f.set j d }⟩) env' ∧ κ.nx env')
    (hs : ∀ X : Cx, swapsWithSole [.Subscript (.Attribute (.Name x p) "_finished" p2) i p'] e pos.line X.env = pure false := by intro _; kernel_rfl) (hw : ∀ X : Cx, swappedStores [.Subscript (.Attribute (.Name x p) "_finished" p2) i p'] e X.env = pure none := by intro _; kernel_rfl) (h1 : ∀ X : Cx, (assignEach [.Subscript (.Attribute (.Name x p) "_finished" p2) i p'] X.env).map (·.2) = [assign (.Subscript (.Attribute (.Name x p) "_finished" p2) i p') X.env] := by intro _; kernel_rfl)
    (ha : ∀ X : Cx, ∀ v, assign (.Subscript (.Attribute (.Name x p) "_finished" p2) i p') X.env v = (do
      let ov ← holding [v] (eval (.Attribute (.Name x p) "_finished" p2) X.env)
      let iv ← holding [v, ov] (eval i X.env)
      standAt p'
      holding [v, ov, iv] (setItem ov iv v)
      release [v, ov, iv] []) := by intro _ _; kernel_rfl) (hb : ∀ X : Cx, attributeBase (.Name x p) "_finished" X.env (eval (.Name x p) X.env) = eval (.Name x p) X.env := by intro _; kernel_rfl) : DS c env (.Assign [.Subscript (.Attribute (.Name x p) "_finished" p2) i p'] e pos) κ :=
  ds_setF ok hN (.lg tab n) hx (dp_lg ok ld .f hN hx hb) (de_view z (h.imp fun w ⟨h1, d, h2, h3⟩ => ⟨h1, d, h2, de_view z h3⟩)) hs hw h1 ha
theorem st_setF {j} (ok : COk c) (hN : c.N = N) (hx : LkO N env x (.ost A co)) (z : Fz env envz)
    (h : DE c envz e fun w => immW w = true ∧ ∃ d, w = .d d ∧ DE c envz i fun u => immW u = true ∧ ∃ (m : Int) (j : Nat), u = .d (.int m) ∧ ixN co.f.length m = some j ∧ ∃ env', Up N env x (.ost A { co with f := co.f.set j d }) env' ∧ κ.nx env')
    (hs : ∀ X : Cx, swapsWithSole [.Subscript (.Subscript (.Name x p) (.Constant (.int 3) j p2) p3) i p'] e pos.line X.env = pure false := by intro _; kernel_rfl) (hw : ∀ X : Cx, swappedStores [.Subscript (.Subscript (.Name x p) (.Constant (.int 3) j p2) p3) i p'] e X.env = pure none := by intro _; kernel_rfl) (h1 : ∀ X : Cx, (assignEach [.Subscript (.Subscript (.Name x p) (.Constant (.int 3) j p2) p3) i p'] X.env).map (·.2) = [assign (.Subscript (.Subscript (.Name x p) (.Constant (.int 3) j p2) p3) i p') X.env] := by intro _; kernel_rfl)
    (ha : ∀ X : Cx, ∀ v, assign (.Subscript (.Subscript (.Name x p) (.Constant (.int 3) j p2) p3) i p') X.env v = (do
      let ov ← holding [v] (eval (.Subscript (.Name x p) (.Constant (.int 3) j p2) p3) X.env)
      let iv ← holding [v, ov] (eval i X.env)
      standAt p'
      holding [v, ov, iv] (setItem ov iv v)
      release [v, ov, iv] []) := by intro _ _; kernel_rfl) : DS c env (.Assign [.Subscript (.Subscript (.Name x p) (.Constant (.int 3) j p2) p3) i p'] e pos) κ :=
  ds_setF ok hN .st hx (dp_st ok .f hN hx rfl) (de_view z (h.imp fun w ⟨h1, d, h2, h3⟩ => ⟨h1, d, h2, de_view z h3⟩)) hs hw h1 ha
theorem lg_fldO (ok : COk c) (ld : LdOk c.K c.C) (hN : c.N = N) (hx : LkO N env x (.olg A ⟨tab, n, co⟩)) (z : Fz env envz)
    (h : DF c envz e fun ds => immAll ds = true ∧ ∀ l, ∃ env', Up N env x (.olg { A with o := l } ⟨tab, n, { co with o := ds }⟩) env' ∧ κ.nx env')
    (hs : ∀ X : Cx, swapsWith e (some (.Attribute (.Name x p) "_owed" p')) pos.line X.env = pure false := by intro _; kernel_rfl) : DS c env (.Assign [.Attribute (.Name x p) "_owed" p'] e pos) κ := ds_fldO ok ld hN hx (df_view z h) hs
theorem st_setO {j} (ok : COk c) (hN : c.N = N) (hx : LkO N env x (.ost A co)) (z : Fz env envz)
    (h : DF c envz e fun ds => immAll ds = true ∧ ∀ l, ∃ env', Up N env x (.ost { A with o := l } { co with o := ds }) env' ∧ κ.nx env')
    (hs : ∀ X : Cx, swapsWithSole [.Subscript (.Name x p) (.Constant (.int 4) j p2) p'] e pos.line X.env = pure false := by intro _; kernel_rfl) (hw : ∀ X : Cx, swappedStores [.Subscript (.Name x p) (.Constant (.int 4) j p2) p'] e X.env = pure none := by intro _; kernel_rfl) (h1 : ∀ X : Cx, (assignEach [.Subscript (.Name x p) (.Constant (.int 4) j p2) p'] X.env).map (·.2) = [assign (.Subscript (.Name x p) (.Constant (.int 4) j p2) p') X.env] := by intro _; kernel_rfl)
    (ha : ∀ X : Cx, ∀ v, assign (.Subscript (.Name x p) (.Constant (.int 4) j p2) p') X.env v = (do
      let ov ← holding [v] (eval (.Name x p) X.env)
      let iv ← holding [v, ov] (eval (.Constant (.int 4) j p2) X.env)
      standAt p'
      holding [v, ov, iv] (setItem ov iv v)
      release [v, ov, iv] []) := by intro _ _; kernel_rfl) : DS c env (.Assign [.Subscript (.Name x p) (.Constant (.int 4) j p2) p'] e pos) κ := ds_setO ok hN hx (df_view z h) hs hw h1 ha
theorem lg_fldN (ok : COk c) (ld : LdOk c.K c.C) (hN : c.N = N) (hx : LkO N env x (.olg A ⟨tab, n, co⟩)) (z : Fz env envz)
    (h : DE c envz e fun w => immW w = true ∧ ∃ m : Int, w = .d (.int m) ∧ ∃ env', Up N env x (.olg A ⟨tab, m, co⟩) env' ∧ κ.nx env')
    (hs : ∀ X : Cx, swapsWith e (some (.Attribute (.Name x p) "_opened" p')) pos.line X.env = pure false := by intro _; kernel_rfl) : DS c env (.Assign [.Attribute (.Name x p) "_opened" p'] e pos) κ := ds_fldN ok ld hN hx (de_view z h) hs
theorem df_catE {a b : Expr} {P : List PD → Prop} (h : DE c env a fun x => ∃ ds, x = .d (.list ds) ∧ DE c env b fun y => ∃ es, y = .d (.list es) ∧ ds.length + es.length ≤ 1000000 ∧ P (ds ++ es)) : DF c env (.BinOp a .Add b pos) P := by
  intro X hX B Z H S fp σ E Q q
  refine oE (pe_op op_cat pE pE) ?_
  refine h X hX B Z H S fp σ E _ fun w1 v1 H1 S1 h1 E1 s1 r1 => ?_
  obtain ⟨ds, rfl, h1⟩ := h1
  refine h1 X hX B Z H1 S1 fp σ E1 _ fun w2 v2 H2 S2 h2 E2 s2 r2 => ?_
  obtain ⟨es, rfl, hz, hP⟩ := h2
  obtain ⟨l, vs, rfl, l1, r1⟩ := Dt.list_inv (S := S1) r1
  obtain ⟨m, us, rfl, l2, r2⟩ := Dt.list_inv (S := S2) r2
  refine ⟨l, m, vs, us, rfl, rfl, E2.sub _ _ (s2 _ _ l1), E2.sub _ _ l2, by rw [r1.length, r2.length]; exact Nat.le_trans hz (by decide), fun p hp => ?_⟩
  exact q _ p _ _ S2 hP (E2.newH hp) (s1.trans s2) (E2.lone hp) upd_same ((DtAll.mono s2 _ _ r1).append r2)
theorem do_none {P : Option Int → Prop} (h : P none) : DO c env none P := h
theorem do_some {P : Option Int → Prop} (h : DE c env e fun w => ∃ i, w = .d (.int i) ∧ P (some i)) : DO c env (some e) P := h
end
theorem cut_all0 {ds : List PD} {n : Nat} : cutD ds (some (n : Int)) none = ds.drop n := by
  unfold cutD
  rw [HT.sIx_nat, HT.sIx_none]
  by_cases h : n ≤ ds.length
  · rw [Nat.min_eq_left h]
    exact List.take_of_length_le (by rw [List.length_drop]; omega)
  · rw [Nat.min_eq_right (by omega), List.drop_eq_nil_of_le (Nat.le_refl _), List.drop_eq_nil_of_le (by omega)]
    exact List.take_of_length_le (by simp)
theorem cut_to {ds : List PD} {n : Nat} : cutD ds none (some (n : Int)) = ds.take n := by
  unfold cutD
  rw [HT.sIx_nat, HT.sIx_none, List.drop_zero, Nat.sub_zero]
  by_cases h : n ≤ ds.length
  · rw [Nat.min_eq_left h]
  · rw [Nat.min_eq_right (by omega), List.take_of_length_le (Nat.le_refl _), List.take_of_length_le (by omega)]
theorem cut_tail {d : PD} {ds : List PD} : cutD (d :: ds) (some 1) none = ds := cut_all0 (n := 1)
theorem Co.eq {a b : Co} (h1 : a.t = b.t) (h2 : a.m = b.m) (h3 : a.b = b.b) (h4 : a.f = b.f) (h5 : a.o = b.o) : a = b := by
  cases a; cases b
  cases h1; cases h2; cases h3; cases h4; cases h5
  rfl
theorem endM_lg {a : Addr} {po : OKd → Co → Prop} {A : Ad} {tab : List (Str × PD)} {n : Int} {co : Co} {env : En} (h : A.a = a) (hp : po (.lg tab n) co) : endM 0 a po (some (.olg A ⟨tab, n, co⟩) :: env) := ⟨.lg tab n, co, A, rfl, h, hp⟩
theorem endM_st0 {a : Addr} {po : OKd → Co → Prop} {A : Ad} {co : Co} {env : En} (h : A.a = a) (hp : po .st co) : endM 0 a po (some (.ost A co) :: env) := ⟨.st, co, A, rfl, h, hp⟩
theorem endM_st1 {a : Addr} {po : OKd → Co → Prop} {A : Ad} {co : Co} {s : Option Slot} {env : En} (h : A.a = a) (hp : po .st co) : endM 1 a po (s :: some (.ost A co) :: env) := ⟨.st, co, A, rfl, h, hp⟩
theorem immAll_nil : immAll [] = true := by simp [immAll]
/-! ## 25. A method without arguments that hands back a new list -/
section
variable {c : Ctx} {env : En} {pos : Pos} {α : Type} {ar : α → List W}
theorem df_meth0 {P : List PD → Prop} {o : Expr} {m : Str} {apos : Pos} {po : α → List PD → Prop} (ok : COk c) (ld : LdOk c.K c.C) (F : Me c m (SpF c.C ar po)) (hm : m ∉ ledN) (h : DE c env o fun w => ∃ L, w = .lg L ∧ ∃ z, [.lg L] = ar z ∧ ∀ ds, po z ds → P ds) {pl : Cx → Sem Bool}
    (ht : ∀ X : Cx, eval (.Call (.Attribute o m apos) [] [] pos) X.env = (do
      let ov ← eval o X.env
      standAt apos.atName
      let (f, first) ← holding [ov] (getMethod ov m (pl X))
      callWith pos f first (backTo pos (starEach [] X.env)) (backToKw pos (keywordEach [] X.env))) := by intro _; rfl) : DF c env (.Call (.Attribute o m apos) [] [] pos) P := by
  intro X hX B Z H S fp σ E Q q
  obtain ⟨k, f, fd, ps, FO, hr, hme, hb⟩ := ok.me hX F
  have hK : X.K = c.K := (ok.eqs X hX).2.2.1
  refine oE (pe_meth0 pE (by rw [hK]; exact ld.cl) hme FO hr hb .nil pass0 (ht X)) ?_
  refine h X hX B Z H S fp σ E _ fun w v H1 S1 h1 E1 s1 r1 => ?_
  obtain ⟨L, rfl, z, ez, hP⟩ := h1
  obtain ⟨a, dx, fs, _, _, _, _, _, _, ev, e2, _, _, _, _, _, _, _, lm, _⟩ := id r1
  refine ⟨a, dx, fs, ev, E1.sub _ _ e2, no_look ok lm hm, ?_⟩
  refine ⟨z, S1, E1.sub, by rw [List.append_nil, ← ez]; exact .cons r1 .nil, fun ds p ws H3 S3 hw s3 ot hp sp hl hd => ?_⟩
  have E2 := E1.called s3 ot
  have lo := E1.lone hp
  exact q ds p ws H3 S3 (hP ds hw) E2 (s1.trans ot.s) ⟨sp, lo.b, lo.z, lo.f, lo.pl⟩ hl hd
theorem de_cutT {N : List Str} {x : Str} {p : Pos} {ds : List PD} {lo hi : Option Expr} {p2 : Pos} {P : W → Prop} (ok : COk c) (hN : c.N = N) (hx : Lk N env x (.d (.tuple ds))) (h : DO c env lo fun l => DO c env hi fun u => P (.d (.tuple (cutD ds l u)))) : DE c env (.Subscript (.Name x p) (.Slice lo hi none p2) pos) P := de_cut (de_var ok hN hx ⟨ds, rfl, h⟩)
theorem de_cutL {N : List Str} {x : Str} {p : Pos} {ds : List PD} {lo hi : Option Expr} {p2 : Pos} {P : W → Prop} (ok : COk c) (hN : c.N = N) (hx : Lk N env x (.d (.list ds))) (h : DO c env lo fun l => DO c env hi fun u => P (.d (.list (cutD ds l u)))) : DE c env (.Subscript (.Name x p) (.Slice lo hi none p2) pos) P := de_of_df (df_cut (de_var ok hN hx ⟨ds, rfl, h⟩))
end
def fzO : Option Slot → Option Slot
  | none => none
  | some (.r w) => some (.r w)
  | some .pool => some .pool
  | some (.l ds) => some (.r (.d (.list ds)))
  | some (.otb kvs) => some (.r (.tb kvs))
  | some (.ost _ s) => some (.r (.st s))
  | some (.olg _ L) => some (.r (.lg L))
theorem Fz.any {q : Option Slot} {e f : En} (h : Fz e f) : Fz (q :: e) (fzO q :: f) := by
  cases q with
  | none => exact .non h
  | some s => cases s <;> exact .som (by first | exact .r | exact .pool | exact .l | exact .otb | exact .ost | exact .olg) h
/-! ## 26. The pool -/
section
variable {c : Ctx} {B : Hp} {Z : Addr → Prop} {H S : Hp} {fp : Nat → List Addr} {σ : L2.St} {env : En}
theorem ER.poolSet (E : ER c B Z H S fp σ env) {p q : Addr} (hp : c.pl = some (p, q)) {n : Int} {k : Nat} : ER c B Z (upd H p (.lst [.int n, .ref q, .int ((k : Int) - 1)])) S fp σ env := by
  obtain ⟨hP, hS⟩ := E.pool p q hp
  obtain ⟨hne, n0, k0, ns, h1, h2⟩ := hP
  refine E.growP (fun a o e hn => by rw [upd_ne (hn p q hp).1]; exact e) (fun p' q' hp' => ?_) (Same.refl S) (fun a o e => ?_) fun a o e h => by rw [h] at e; cases e
  · rw [hp] at hp'
    cases hp'
    exact ⟨hne, n, k, ns, upd_same, by rw [upd_ne (Ne.symm hne)]; exact h2⟩
  · rw [upd_ne fun z => by rw [z, (hS p (.inl rfl)).1] at e; cases e]
    exact E.sub a o e
end
section
variable {c : Ctx} {env : En} {N G : List Str} {pos p1 p2 p3 p4 p5 p6 p7 p8 p9 p10 p11 p12 p13 p14 p15 p16 p17 p18 p19 p20 p' : Pos} {κ : Kt} {e : Expr} {rest : List Stmt} {x y : Str} {P : W → Prop}
theorem own_pool (ok : COk c) (hN : c.N = N) (hy : LkP N env y) {X : Cx} (hX : c.F X) {B : Hp} {Z : Addr → Prop} {H S : Hp} {fp : Nat → List Addr} {σ : L2.St} (E : ER c B Z H S fp σ env) :
    ∃ (i : Nat) (p q : Addr) (n : Int) (ns : List Int) (k : Nat), (∀ pos, PE X (.Name y pos) (tVar i)) ∧ σ[i]? = some (some (.ref p)) ∧ c.pl = some (p, q) ∧ H p = some (.lst [.int n, .ref q, .int ((k : Int) - 1)]) ∧ H q = some (.lst (ns.map V.int)) := by
  obtain ⟨i, h1, h2⟩ := hy.get
  obtain ⟨v, h3, p, q, rfl, h4⟩ := E.slot i _ h2
  obtain ⟨⟨_, n, k, ns, g1, g2⟩, _⟩ := E.pool p q h4
  exact ⟨i, p, q, n, ns, k, fun pos => ok.pvar hX (by rw [hN]; exact h1) (E.vis i _ y h2 (by rw [hN]; exact h1)), h3, h4, g1, g2⟩
theorem de_pool0 {j} (ok : COk c) (hN : c.N = N) (hy : LkP N env y) (h : ∀ n : Int, P (.d (.int n))) : DE c env (.Subscript (.Name y p1) (.Constant (.int 0) j p2) pos) P := by
  intro X hX B Z H S fp σ E Q q
  obtain ⟨i, p, q0, n, ns, k, hv, hs, hp, g1, g2⟩ := own_pool ok hN hy hX E
  refine oE (pe_ix ix_list (hv p1) pe_int (by intro _ _; rfl)) ?_
  exact ⟨_, hs, p, _, 0, .int n, rfl, rfl, Or.inl (Or.inl g1), rfl, q _ _ H S (h n) E (Same.refl S) (.int n)⟩
theorem ds_pool0 {j} (ok : COk c) (hN : c.N = N) (hy : LkP N env y) (h : DE c env e fun w => ∃ n : Int, w = .d (.int n) ∧ κ.nx env)
    (hs : ∀ X : Cx, swapsWithSole [.Subscript (.Name y p1) (.Constant (.int 0) j p2) p'] e pos.line X.env = pure false := by intro _; kernel_rfl) (hw : ∀ X : Cx, swappedStores [.Subscript (.Name y p1) (.Constant (.int 0) j p2) p'] e X.env = pure none := by intro _; kernel_rfl) (h1 : ∀ X : Cx, (assignEach [.Subscript (.Name y p1) (.Constant (.int 0) j p2) p'] X.env).map (·.2) = [assign (.Subscript (.Name y p1) (.Constant (.int 0) j p2) p') X.env] := by intro _; kernel_rfl)
    (ha : ∀ X : Cx, ∀ v, assign (.Subscript (.Name y p1) (.Constant (.int 0) j p2) p') X.env v = (do
      let ov ← holding [v] (eval (.Name y p1) X.env)
      let iv ← holding [v, ov] (eval (.Constant (.int 0) j p2) X.env)
      standAt p'
      holding [v, ov, iv] (setItem ov iv v)
      release [v, ov, iv] []) := by intro _ _; kernel_rfl) : DS c env (.Assign [.Subscript (.Name y p1) (.Constant (.int 0) j p2) p'] e pos) κ := fun X hX B Z H S fp σ E D κ' => by
  obtain ⟨i, p, q0, n, ns, k, hv, hs0, hp, _, _⟩ := own_pool ok hN hy hX E
  refine oS (ps_asg pE (pg_sub (hv p1) pe_int set_list (ha X)) (hs X) (hw X) (h1 := h1 X)) ?_
  refine h X hX B Z H S fp σ E _ fun w v H1 S1 ⟨m, e1, hq⟩ E1 s1 r1 => ?_
  subst e1
  obtain rfl := Dt.int_inv (S := S1) r1
  obtain ⟨⟨_, n1, k1, ns1, g1, g2⟩, _⟩ := E1.pool p q0 hp
  refine ⟨_, hs0, p, _, 0, 0, rfl, rfl, g1, rfl, ?_⟩
  exact κ'.nx _ _ S1 _ _ hq (E1.poolSet hp (n := m) (k := k1)) s1
/-- pool[2] = pool[2] + 1; pool[0] = wide(pool[1], pool[2]) -/
theorem dss_draw {j1 j2 j3 j4 j5 j6} (ok : COk c) (hN : c.N = N) (hy : LkP N env y) (F : Fn c x (SpD c.C (fun z : List Int × Nat => [.d (.list (z.1.map .int)), .d (.int z.2)]) (fun _ r => ∃ n : Int, r = .d (.int n)))) (hG : c.G = G) (hg : x ∈ G) (h : DSs c env rest κ)
    (a1 : ∀ X : Cx, swapsWithSole [.Subscript (.Name y p1) (.Constant (.int 2) j1 p2) p3] (.BinOp (.Subscript (.Name y p4) (.Constant (.int 2) j2 p5) p6) .Add (.Constant (.int 1) j3 p7) p8) p9.line X.env = pure false := by intro _; kernel_rfl)
    (a2 : ∀ X : Cx, swappedStores [.Subscript (.Name y p1) (.Constant (.int 2) j1 p2) p3] (.BinOp (.Subscript (.Name y p4) (.Constant (.int 2) j2 p5) p6) .Add (.Constant (.int 1) j3 p7) p8) X.env = pure none := by intro _; kernel_rfl)
    (a3 : ∀ X : Cx, (assignEach [.Subscript (.Name y p1) (.Constant (.int 2) j1 p2) p3] X.env).map (·.2) = [assign (.Subscript (.Name y p1) (.Constant (.int 2) j1 p2) p3) X.env] := by intro _; kernel_rfl)
    (a4 : ∀ X : Cx, ∀ v, assign (.Subscript (.Name y p1) (.Constant (.int 2) j1 p2) p3) X.env v = (do
      let ov ← holding [v] (eval (.Name y p1) X.env)
      let iv ← holding [v, ov] (eval (.Constant (.int 2) j1 p2) X.env)
      standAt p3
      holding [v, ov, iv] (setItem ov iv v)
      release [v, ov, iv] []) := by intro _ _; kernel_rfl)
    (b1 : ∀ X : Cx, swapsWithSole [.Subscript (.Name y p10) (.Constant (.int 0) j4 p11) p12] (.Call (.Name x p13) [.Subscript (.Name y p14) (.Constant (.int 1) j5 p15) p16, .Subscript (.Name y p17) (.Constant (.int 2) j6 p18) p19] [] p20) pos.line X.env = pure false := by intro _; kernel_rfl)
    (b2 : ∀ X : Cx, swappedStores [.Subscript (.Name y p10) (.Constant (.int 0) j4 p11) p12] (.Call (.Name x p13) [.Subscript (.Name y p14) (.Constant (.int 1) j5 p15) p16, .Subscript (.Name y p17) (.Constant (.int 2) j6 p18) p19] [] p20) X.env = pure none := by intro _; kernel_rfl)
    (b3 : ∀ X : Cx, (assignEach [.Subscript (.Name y p10) (.Constant (.int 0) j4 p11) p12] X.env).map (·.2) = [assign (.Subscript (.Name y p10) (.Constant (.int 0) j4 p11) p12) X.env] := by intro _; kernel_rfl)
    (b4 : ∀ X : Cx, ∀ v, assign (.Subscript (.Name y p10) (.Constant (.int 0) j4 p11) p12) X.env v = (do
      let ov ← holding [v] (eval (.Name y p10) X.env)
      let iv ← holding [v, ov] (eval (.Constant (.int 0) j4 p11) X.env)
      standAt p12
      holding [v, ov, iv] (setItem ov iv v)
      release [v, ov, iv] []) := by intro _ _; kernel_rfl) :
    DSs c env (.Assign [.Subscript (.Name y p1) (.Constant (.int 2) j1 p2) p3] (.BinOp (.Subscript (.Name y p4) (.Constant (.int 2) j2 p5) p6) .Add (.Constant (.int 1) j3 p7) p8) p9 ::
      .Assign [.Subscript (.Name y p10) (.Constant (.int 0) j4 p11) p12] (.Call (.Name x p13) [.Subscript (.Name y p14) (.Constant (.int 1) j5 p15) p16, .Subscript (.Name y p17) (.Constant (.int 2) j6 p18) p19] [] p20) pos :: rest) κ := fun X hX B Z H S fp σ E D κ' => by
  obtain ⟨i, p, q, n, ns, k, hv, hs0, hp, g1, g2⟩ := own_pool ok hN hy hX E
  obtain ⟨f1, f2⟩ := E.pool p q hp
  have hne := f1.1
  obtain ⟨kk, f, fd, ps, FO, hr, hm, hk, hb⟩ := ok.fn hX F
  refine oSs (pss_cons pS (pss_cons pS pSs)) ?_
  show sS X _ { D with nx := _ } σ H
  refine oS (ps_asg (pe_op (opAdd X) (pe_ix ix_list (hv p4) pe_int (by intro _ _; rfl)) pe_int) (pg_sub (hv p1) pe_int set_list (a4 X)) (a1 X) (a2 X) (h1 := a3 X)) ?_
  refine ⟨_, hs0, p, _, 2, .int ((k : Int) - 1), rfl, rfl, Or.inl (Or.inl g1), rfl, (k : Int) - 1, 1, rfl, rfl, trivial, ?_⟩
  refine ⟨_, hs0, p, _, 2, 2, rfl, rfl, g1, rfl, ?_⟩
  have ek : (k : Int) - 1 + 1 = ((k + 1 : Nat) : Int) - 1 := by omega
  have E1 := E.poolSet hp (n := n) (k := k + 1)
  show sS X _ _ σ (upd H p (.lst [.int n, .ref q, .int ((k : Int) - 1 + 1)]))
  rw [ek]
  obtain ⟨H1, eH1⟩ : ∃ H1, H1 = upd H p (.lst [.int n, .ref q, .int (((k + 1 : Nat) : Int) - 1)]) := ⟨_, rfl⟩
  rw [← eH1] at E1 ⊢
  have gp : H1 p = some (.lst [.int n, .ref q, .int (((k + 1 : Nat) : Int) - 1)]) := by rw [eH1]; exact upd_same
  have gq : H1 q = some (.lst (ns.map V.int)) := by rw [eH1, upd_ne (Ne.symm hne)]; exact g2
  refine oS (ps_asg (pe_call FO hr (ok.gl X hX x (hG ▸ hg)) hm hk hb .nil pass0 (pa_cons (pe_ix ix_list (hv p14) pe_int (by intro _ _; rfl)) (pa_cons (pe_ix ix_list (hv p17) pe_int (by intro _ _; rfl)) pa_nil)) (ok.dbgG x (hG ▸ hg)).1 rfl rfl) (pg_sub (hv p10) pe_int set_list (b4 X)) (b1 X) (b2 X) (h1 := b3 X)) ?_
  refine ⟨_, hs0, p, _, 1, .ref q, rfl, rfl, Or.inl (Or.inl gp), rfl, ?_⟩
  refine ⟨_, hs0, p, _, 2, .int (((k + 1 : Nat) : Int) - 1), rfl, rfl, Or.inl (Or.inl gp), rfl, ?_⟩
  have ek2 : ((k + 1 : Nat) : Int) - 1 = (k : Int) := by omega
  have sm : Same (upd no q (.lst (ns.map V.int))) H1 := fun a o e => by
    by_cases h : a = q
    · subst h; rw [upd_same] at e; cases e; exact gq
    · rw [upd_ne h] at e; cases e
  have dts : ∀ (S : Hp) (l : List Int), DtAll S (l.map V.int) (l.map .int) := fun S l => by
    induction l with
    | nil => exact .nil
    | cons a l ih => exact .cons (.int a) ih
  refine ⟨(ns, k), upd no q (.lst (ns.map V.int)), sm, ?_, fun w v H2 S2 hw s2 ot r2 => ?_⟩
  · rw [ek2]
    exact .cons (Dt.lst (S := upd no q (.lst (ns.map V.int))) upd_same (dts _ ns)) (.cons (Dt.int (k : Int)) .nil)
  · obtain ⟨m, rfl⟩ := hw
    obtain rfl := Dt.int_inv (S := S2) r2
    have E2 : ER c B Z H2 S fp σ env := E1.grow s2 (Same.refl S) (fun a o e => s2 _ _ (E1.sub a o e)) fun a o e h => by rw [h] at e; cases e
    obtain ⟨⟨_, n1, k1, ns1, y1, y2⟩, _⟩ := E2.pool p q hp
    refine ⟨_, hs0, p, _, 0, 0, rfl, rfl, y1, rfl, ?_⟩
    exact h X hX B Z _ S fp σ (E2.poolSet hp (n := m) (k := k1)) D κ'
end
/-! ## 28. The pool comes up; an own list is given away -/
def SpPl (K : PySem.W.Frag) : Sp := fun vs H Q _ => ∃ (ns : List Int) (a : Addr), vs = [.ref a] ∧ SqL K H a (ns.map V.int) ∧ ∀ p q H', PoolAt H' p q → Q (.ref p) H'
section
variable {c : Ctx} {B : Hp} {Z : Addr → Prop} {H S : Hp} {fp : Nat → List Addr} {σ : L2.St} {env : En}
theorem set_same {α : Type} : ∀ (l : List α) (i : Nat) (a : α), l[i]? = some a → l.set i a = l
  | [], _, _, h => by cases h
  | x :: l, 0, a, h => by simp at h; rw [h]; rfl
  | x :: l, i + 1, a, h => by
    show x :: l.set i a = x :: l
    rw [set_same l i a (by simpa using h)]
theorem ER.give (ok : COk c) (E : ER c B Z H S fp σ env) {i : Nat} {x : Str} {ds : List PD} (hi : env[i]? = some (some (.l ds))) (hN : c.N[i]? = some x) : ∃ S' fp', Same S S' ∧ ER c B Z H S' fp' σ (env.set i (some (.r (.d (.list ds))))) := by
  obtain ⟨v, h1, p, vs, rfl, h4, h5, h6⟩ := E.slot i _ hi
  have hpi : p ∈ fp i := by rw [h6]; simp
  obtain ⟨q1, q2, q3, q4⟩ := E.out i p hpi
  have hlt : i < env.length := by
    obtain ⟨h, _⟩ := List.getElem?_eq_some_iff.mp hi
    exact h
  have E0 : ER c B Z H S (fun j => if j = i then [] else fp j) σ (env.set i none) := by
    refine ⟨by rw [List.length_set]; exact E.len, E.sub, E.prot, E.forb, E.zin, fun j t e => ?_, fun j a ha => ?_, fun j k a h h' => ?_, fun j t y e h => ?_, fun a b h => ?_⟩
    · by_cases hj : i = j
      · subst hj; rw [List.getElem?_set_self hlt] at e; cases e
      · rw [List.getElem?_set_ne hj] at e
        rw [if_neg (Ne.symm hj)]
        exact E.slot j t e
    · by_cases hj : j = i
      · rw [if_pos hj] at ha; cases ha
      · rw [if_neg hj] at ha; exact E.out j a ha
    · by_cases hj : j = i
      · rw [if_pos hj] at h; cases h
      · by_cases hk : k = i
        · rw [if_pos hk] at h'; cases h'
        · rw [if_neg hj] at h; rw [if_neg hk] at h'; exact E.sep j k a h h'
    · by_cases hj : i = j
      · subst hj; rw [List.getElem?_set_self hlt] at e; cases e
      · rw [List.getElem?_set_ne hj] at e
        exact E.vis j t y e h
    · obtain ⟨g1, g2⟩ := E.pool a b h
      refine ⟨g1, fun z hz => ?_⟩
      obtain ⟨y1, y2, y3, y4⟩ := g2 z hz
      refine ⟨y1, y2, y3, fun j hj => ?_⟩
      by_cases e : j = i
      · rw [if_pos e] at hj; cases hj
      · rw [if_neg e] at hj; exact y4 j hj
  have L : Lone c B Z S (fun j => if j = i then [] else fp j) p := by
    refine ⟨q1, q2, q3, fun j hj => ?_, fun a b h => ?_⟩
    · by_cases e : j = i
      · rw [if_pos e] at hj; cases hj
      · rw [if_neg e] at hj; exact e (E.sep j i p hj hpi)
    · obtain ⟨_, g2⟩ := E.pool a b h
      exact ⟨fun e => (g2 p (.inl e)).2.2.2 i hpi, fun e => (g2 p (.inr e)).2.2.2 i hpi⟩
  have s1 : Same S (upd S p (.lst vs)) := same_upd q1
  have E2 := (E0.take h4 L).setR ok (i := i) (v := .ref p) (w := .d (.list ds)) hN (E.vis i _ x hi hN) (by rw [List.length_set]; exact hlt) (.lst upd_same (DtAll.mono s1 _ _ h5))
  rw [List.set_set, set_same σ i _ h1] at E2
  exact ⟨_, _, s1, E2⟩
end
section
variable {c : Ctx} {env : En} {N G : List Str} {pos p p2 p' : Pos} {κ : Kt} {e : Expr} {rest : List Stmt} {x g : Str}
theorem dss_give {ds : List PD} (ok : COk c) (hN : c.N = N) (hx : LkO N env x (.l ds)) (h : ∃ env', Up N env x (.r (.d (.list ds))) env' ∧ DSs c env' rest κ) : DSs c env rest κ := fun X hX B Z H S fp σ E D κ' => by
  obtain ⟨i, h1, h2⟩ := hx.get
  obtain ⟨env', u, hq⟩ := h
  obtain ⟨j, j1, j2, rfl⟩ := u.get
  obtain rfl : i = j := nodup_ix (by rw [← hN]; exact ok.nd) h1 j1
  obtain ⟨S', fp', s, E'⟩ := E.give ok h2 (by rw [hN]; exact h1)
  exact hq X hX B Z H S' fp' σ E' D (κ'.mono s)
end
/-! ## 14. Talks -/
inductive Kind
  | non | int | bool | ref (b : Bool) (n : Str)
mutual
inductive Talk
  | fin | ref (b : Bool) (n : Str) | act (s : Bool) (rs : Rows)
inductive Rows
  | nil | cons (l : Str) (k : Kind) (t : Talk) (rs : Rows)
end
def rtag : Bool → Str
  | false => "name"
  | true => "dual"
def atag : Bool → Str
  | false => "hear"
  | true => "say"
def Kind.D : Kind → PD
  | .non => .none
  | .int => .str "int"
  | .bool => .str "bool"
  | .ref b n => .tuple [.str (rtag b), .str n]
mutual
def Talk.D : Talk → PD
  | .fin => .tuple [.str "end"]
  | .ref b n => .tuple [.str (rtag b), .str n]
  | .act s rs => .tuple [.str (atag s), .tuple rs.D]
def Rows.D : Rows → List PD
  | .nil => []
  | .cons l k t rs => .tuple [.str l, k.D, t.D] :: rs.D
end
theorem eo_str {x y : Str} : eqOk (.str x) (.str y) = true := rfl
section
variable {P : Program} {w : World} {K : PySem.W.Frag} {mg : Str → Option Value} {base : Heap} {f : Addr} {fd : FuncData} {C : Addr}
abbrev FD (K : PySem.W.Frag) (x : Str) (st : Stmt) (f : Addr) (fd : FuncData) : Prop := FunD K x x (defArgs st) (defBody st) (defScope st) [] [] f fd
end
section
variable {P : Program} {w : World} {K : PySem.W.Frag} {mg : Str → Option Value} {base : Heap} {k : Nat} {C : Addr} {pl : Option (Addr × Addr)} {c : Ctx} {env env' : En} {N Ls G0 Vs G Os : List Str} {pos spos p p0 : Pos} {κ : Kt} {scope sc : Scope} {own : List (Str × Nat)} {tg elt iter e : Expr} {ifs : List Expr} {x : Str}
/-- a comprehension, its block's frame given -/
theorem lc_D {Q : List PD → Prop} (kd : ItK) (I : CIs c P w K mg base k N Ls G0 C pl sc) (Vs Os G : List Str) (own : List (Str × Nat)) (hb : blkB N sc scope own Vs Os G tg = true) (m : Mk Vs Os N env env')
    (h : ∀ cb, CIs cb P w K mg base k N Os G C none (relS scope sc) → DE c env iter fun w => ∃ ds, w = .d (match kd with | .l => .list ds | .t => .tuple ds) ∧ LcJ cb env' tg ifs elt ds Q) (hs : ∀ (X : Cx) x, foldedSetIterable iter X.env x = pure x := by intro _ _; rfl) : DF c env (.ListComp elt [⟨tg, iter, ifs, 0⟩] scope pos) Q :=
  df_lc kd I.ok I.sc I.N Vs Os G own hb m (h _ (I.blk (blkB_ok hb).2.1)) hs
theorem lc_S {p' : Pos} (kd : ItK) (I : CIs c P w K mg base k N Ls G0 C pl sc) (hm : x ∈ N) (hl0 : x ∈ Ls) (Vs Os G : List Str) (own : List (Str × Nat)) (hb : blkB N sc scope own Vs Os G tg = true) (hlx : (match sc.kind with | .function => true | _ => false) && loclB sc x && (p'.line == pos.line) && !(scope.names.any fun (n, k) => n == x && (k == .local || k == .cell)) = true) (m : Mk Vs Os N env env')
    (h : ∀ cb, CIs cb P w K mg base k N Os G C none (relS scope sc) → DE c env iter fun w => ∃ ds, w = .d (match kd with | .l => .list ds | .t => .tuple ds) ∧ LcJ cb env' tg ifs elt ds fun es => ∃ env2, Up N env x (.l es) env2 ∧ κ.nx env2) (hs : ∀ (X : Cx) x, foldedSetIterable iter X.env x = pure x := by intro _ _; rfl) : DS c env (.Assign [.Name x p'] (.ListComp elt [⟨tg, iter, ifs, 0⟩] scope pos) spos) κ :=
  ds_setLc kd I.ok I.sc I.N hm I.Lo hl0 Vs Os G own hb hlx m (h _ (I.blk (blkB_ok hb).2.1)) hs
theorem lc_R {p' : Pos} (I : CIs c P w K mg base k N Ls G0 C pl sc) (bi : BiOk c.mg) (hg : ("range" : Str) ∈ G0) (hm : x ∈ N) (hl0 : x ∈ Ls) (Vs Os G : List Str) (own : List (Str × Nat)) (hb : blkB N sc scope own Vs Os G tg = true) (hlx : (match sc.kind with | .function => true | _ => false) && loclB sc x && (p'.line == pos.line) && !(scope.names.any fun (n, k) => n == x && (k == .local || k == .cell)) = true) (m : Mk Vs Os N env env')
    (h : ∀ cb, CIs cb P w K mg base k N Os G C none (relS scope sc) → DE c env e fun w => ∃ n : Nat, w = .d (.int n) ∧ n < 1000000 ∧ LcJ cb env' tg ifs elt ((List.range n).map fun (i : Nat) => .int (i : Int)) fun es => ∃ env2, Up N env x (.l es) env2 ∧ κ.nx env2) (hs : ∀ (X : Cx) x, foldedSetIterable (.Call (.Name "range" p0) [e] [] p) X.env x = pure x := by intro _ _; rfl) (he : ∀ X : Cx, starEach [e] X.env = [(false, eval e X.env)] := by intro _; rfl) (he2 : ∀ X : Cx, starEach (e :: []) X.env = (false, eval e X.env) :: starEach [] X.env := by intro _; rfl) :
    DS c env (.Assign [.Name x p'] (.ListComp elt [⟨tg, .Call (.Name "range" p0) [e] [] p, ifs, 0⟩] scope pos) spos) κ :=
  ds_setLcR I.ok bi I.G hg I.sc I.N hm I.Lo hl0 Vs Os G own hb hlx m (h _ (I.blk (blkB_ok hb).2.1)) hs he he2
/-- .. over the items one by one: f says what is kept -/
theorem lc_map {c : Ctx} {env : En} {α : Type} (g : α → PD) (f : α → PD) {xs : List α} {Q : List PD → Prop} (hz : xs.length ≤ 1000000) (h : ∀ a ∈ xs, DG c env tg (g a) fun env2 => DE c env2 elt fun w => w = .d (f a)) (q : Q (xs.map f)) : LcJ c env tg [] elt (xs.map g) Q := by
  refine ⟨fun rest acc => ∃ ys zs, xs = ys ++ zs ∧ rest = zs.map g ∧ acc = ys.map f, ⟨[], xs, rfl, rfl, rfl⟩, fun d rest acc _ ⟨ys, zs, e1, e2, e3⟩ => ?_, fun acc ⟨ys, zs, e1, e2, e3⟩ => ?_⟩
  · cases zs with
    | nil => cases e2
    | cons z zs =>
      cases e2
      intro X hX B Z H S fp σ v E r Q' q'
      refine h z (by rw [e1]; simp) X hX B Z H S fp σ v E r Q' fun env' σ' hP => q' env' σ' ⟨fun _ => ⟨?_, DE.imp hP fun w hw => ⟨_, hw, ys ++ [z], zs, by rw [e1]; simp, rfl, by rw [e3]; simp⟩⟩, fun e => by cases e⟩
      rw [e3, List.length_map]
      have := congrArg List.length e1
      simp at this
      omega
  · cases zs with
    | cons z zs => cases e2
    | nil =>
      rw [List.append_nil] at e1
      rw [e3, ← e1]
      exact q
end
mutual
theorem Talk.imm : ∀ t : Talk, imm t.D = true
  | .fin => by simp [Talk.D, K49.imm, immAll]
  | .ref b n => by simp [Talk.D, K49.imm, immAll]
  | .act s rs => by simp [Talk.D, K49.imm, immAll, Rows.imm rs]
theorem Rows.imm : ∀ rs : Rows, immAll rs.D = true
  | .nil => by simp [Rows.D, immAll]
  | .cons l k t rs => by cases k <;> simp [Rows.D, K49.imm, immAll, Rows.imm rs, Talk.imm t, Kind.D]
end
section
variable {P : Program} {w : World} {K : PySem.W.Frag} {mg : Str → Option Value} {base : Heap} {f : Addr} {fd : FuncData} {C : Addr} {k : Nat}
abbrev N_is_reference : List Str := ["talk"]
abbrev L_is_reference : List Str := ["talk"]
abbrev G_is_reference : List Str := []
theorem sc_is_reference : FnScope N_is_reference ["talk"] (defScope s_is_reference) := ⟨rfl, rfl, rfl, by decide +kernel, rfl, by decide +kernel, by decide +kernel⟩
theorem st_is_reference {α : Type} {ar : α → List W} {po : α → W → Prop} (F : FunD K "is_reference" "is_reference" (defArgs s_is_reference) (defBody s_is_reference) (defScope s_is_reference) [] [] f fd) (har : ∀ z, (ar z).length = 1)
    (body : ∀ c, CIs c P w K mg base k N_is_reference L_is_reference G_is_reference C none (defScope s_is_reference) → ∀ z, DSs c (envO (ar z) 0) (defBody s_is_reference) ⟨fun _ => po z (.d .none), fun r _ => po z r, fun ds _ => po z (.d (.list ds)), fun _ => False, fun _ => False⟩) : FnX P w K mg base (k + 1) (SpD C ar po) f := by
  refine fx_D (Ls := L_is_reference) (G := G_is_reference) F sc_is_reference (by decide +kernel) (by decide +kernel) (by decide +kernel) 0 rfl har (fun _ _ _ _ _ _ us hl => match us, hl with | [_], _ => by kernel_rfl) ?_
  with_reducible exact body
abbrev N_dual_kind : List Str := ["kind"]
abbrev L_dual_kind : List Str := ["kind"]
abbrev G_dual_kind : List Str := []
theorem sc_dual_kind : FnScope N_dual_kind ["kind"] (defScope s_dual_kind) := ⟨rfl, rfl, rfl, by decide +kernel, rfl, by decide +kernel, by decide +kernel⟩
theorem st_dual_kind {α : Type} {ar : α → List W} {po : α → W → Prop} (F : FunD K "dual_kind" "dual_kind" (defArgs s_dual_kind) (defBody s_dual_kind) (defScope s_dual_kind) [] [] f fd) (har : ∀ z, (ar z).length = 1)
    (body : ∀ c, CIs c P w K mg base k N_dual_kind L_dual_kind G_dual_kind C none (defScope s_dual_kind) → ∀ z, DSs c (envO (ar z) 0) (defBody s_dual_kind) ⟨fun _ => po z (.d .none), fun r _ => po z r, fun ds _ => po z (.d (.list ds)), fun _ => False, fun _ => False⟩) : FnX P w K mg base (k + 1) (SpD C ar po) f := by
  refine fx_D (Ls := L_dual_kind) (G := G_dual_kind) F sc_dual_kind (by decide +kernel) (by decide +kernel) (by decide +kernel) 0 rfl har (fun _ _ _ _ _ _ us hl => match us, hl with | [_], _ => by kernel_rfl) ?_
  with_reducible exact body
abbrev N_dual : List Str := ["talk", "rows", "label", "payload", "following"]
abbrev L_dual : List Str := ["talk", "rows"]
abbrev G_dual : List Str := ["dual_kind", "is_reference", "tuple"]
theorem sc_dual : FnScope N_dual ["talk"] (defScope s_dual) := ⟨rfl, rfl, rfl, by decide +kernel, rfl, by decide +kernel, by decide +kernel⟩
theorem st_dual {α : Type} {ar : α → List W} {po : α → W → Prop} (F : FunD K "dual" "dual" (defArgs s_dual) (defBody s_dual) (defScope s_dual) [] [] f fd) (har : ∀ z, (ar z).length = 1)
    (body : ∀ c, CIs c P w K mg base k N_dual L_dual G_dual C none (defScope s_dual) → ∀ z, DSs c (envO (ar z) 4) (defBody s_dual) ⟨fun _ => po z (.d .none), fun r _ => po z r, fun ds _ => po z (.d (.list ds)), fun _ => False, fun _ => False⟩) : FnX P w K mg base (k + 1) (SpD C ar po) f := by
  refine fx_D (Ls := L_dual) (G := G_dual) F sc_dual (by decide +kernel) (by decide +kernel) (by decide +kernel) 4 rfl har (fun _ _ _ _ _ _ us hl => match us, hl with | [_], _ => by kernel_rfl) ?_
  with_reducible exact body
abbrev N_head : List Str := ["table", "talk", "turned"]
abbrev L_head : List Str := ["table", "talk", "turned"]
abbrev G_head : List Str := ["dual", "is_reference"]
theorem sc_head : FnScope N_head ["table", "talk"] (defScope s_head) := ⟨rfl, rfl, rfl, by decide +kernel, rfl, by decide +kernel, by decide +kernel⟩
theorem st_head {α : Type} {ar : α → List W} {po : α → W → Prop} (F : FunD K "head" "head" (defArgs s_head) (defBody s_head) (defScope s_head) [] [] f fd) (har : ∀ z, (ar z).length = 2)
    (body : ∀ c, CIs c P w K mg base k N_head L_head G_head C none (defScope s_head) → ∀ z, DSs c (envO (ar z) 1) (defBody s_head) ⟨fun _ => po z (.d .none), fun r _ => po z r, fun ds _ => po z (.d (.list ds)), fun _ => False, fun _ => False⟩) : FnX P w K mg base (k + 1) (SpD C ar po) f := by
  refine fx_D (Ls := L_head) (G := G_head) F sc_head (by decide +kernel) (by decide +kernel) (by decide +kernel) 1 rfl har (fun _ _ _ _ _ _ us hl => match us, hl with | [_, _], _ => by kernel_rfl) ?_
  with_reducible exact body
abbrev N_row_of : List Str := ["talk", "label", "row"]
abbrev L_row_of : List Str := ["talk", "label", "row"]
abbrev G_row_of : List Str := []
theorem sc_row_of : FnScope N_row_of ["talk", "label"] (defScope s_row_of) := ⟨rfl, rfl, rfl, by decide +kernel, rfl, by decide +kernel, by decide +kernel⟩
theorem st_row_of {α : Type} {ar : α → List W} {po : α → W → Prop} (F : FunD K "row_of" "row_of" (defArgs s_row_of) (defBody s_row_of) (defScope s_row_of) [] [] f fd) (har : ∀ z, (ar z).length = 2)
    (body : ∀ c, CIs c P w K mg base k N_row_of L_row_of G_row_of C none (defScope s_row_of) → ∀ z, DSs c (envO (ar z) 1) (defBody s_row_of) ⟨fun _ => po z (.d .none), fun r _ => po z r, fun ds _ => po z (.d (.list ds)), fun _ => False, fun _ => False⟩) : FnX P w K mg base (k + 1) (SpD C ar po) f := by
  refine fx_D (Ls := L_row_of) (G := G_row_of) F sc_row_of (by decide +kernel) (by decide +kernel) (by decide +kernel) 1 rfl har (fun _ _ _ _ _ _ us hl => match us, hl with | [_, _], _ => by kernel_rfl) ?_
  with_reducible exact body
abbrev N_is_talk_kind : List Str := ["kind"]
abbrev L_is_talk_kind : List Str := ["kind"]
abbrev G_is_talk_kind : List Str := ["isinstance", "tuple"]
theorem sc_is_talk_kind : FnScope N_is_talk_kind ["kind"] (defScope s_is_talk_kind) := ⟨rfl, rfl, rfl, by decide +kernel, rfl, by decide +kernel, by decide +kernel⟩
theorem st_is_talk_kind {α : Type} {ar : α → List W} {po : α → W → Prop} (F : FunD K "is_talk_kind" "is_talk_kind" (defArgs s_is_talk_kind) (defBody s_is_talk_kind) (defScope s_is_talk_kind) [] [] f fd) (har : ∀ z, (ar z).length = 1)
    (body : ∀ c, CIs c P w K mg base k N_is_talk_kind L_is_talk_kind G_is_talk_kind C none (defScope s_is_talk_kind) → ∀ z, DSs c (envO (ar z) 0) (defBody s_is_talk_kind) ⟨fun _ => po z (.d .none), fun r _ => po z r, fun ds _ => po z (.d (.list ds)), fun _ => False, fun _ => False⟩) : FnX P w K mg base (k + 1) (SpD C ar po) f := by
  refine fx_D (Ls := L_is_talk_kind) (G := G_is_talk_kind) F sc_is_talk_kind (by decide +kernel) (by decide +kernel) (by decide +kernel) 0 rfl har (fun _ _ _ _ _ _ us hl => match us, hl with | [_], _ => by kernel_rfl) ?_
  with_reducible exact body
abbrev N_asked_rows : List Str := ["one", "two"]
abbrev L_asked_rows : List Str := ["one", "two"]
abbrev G_asked_rows : List Str := []
theorem sc_asked_rows : FnScope N_asked_rows ["one", "two"] (defScope s_asked_rows) := ⟨rfl, rfl, rfl, by decide +kernel, rfl, by decide +kernel, by decide +kernel⟩
theorem st_asked_rows {α : Type} {ar : α → List W} {po : α → W → Prop} (F : FunD K "asked_rows" "asked_rows" (defArgs s_asked_rows) (defBody s_asked_rows) (defScope s_asked_rows) [] [] f fd) (har : ∀ z, (ar z).length = 2)
    (body : ∀ c, CIs c P w K mg base k N_asked_rows L_asked_rows G_asked_rows C none (defScope s_asked_rows) → ∀ z, DSs c (envO (ar z) 0) (defBody s_asked_rows) ⟨fun _ => po z (.d .none), fun r _ => po z r, fun ds _ => po z (.d (.list ds)), fun _ => False, fun _ => False⟩) : FnX P w K mg base (k + 1) (SpD C ar po) f := by
  refine fx_D (Ls := L_asked_rows) (G := G_asked_rows) F sc_asked_rows (by decide +kernel) (by decide +kernel) (by decide +kernel) 0 rfl har (fun _ _ _ _ _ _ us hl => match us, hl with | [_, _], _ => by kernel_rfl) ?_
  with_reducible exact body
abbrev N_payload_pair : List Str := ["one", "two", "label", "first", "second"]
abbrev L_payload_pair : List Str := ["one", "two", "label", "first", "second"]
abbrev G_payload_pair : List Str := ["row_of"]
theorem sc_payload_pair : FnScope N_payload_pair ["one", "two", "label"] (defScope s_payload_pair) := ⟨rfl, rfl, rfl, by decide +kernel, rfl, by decide +kernel, by decide +kernel⟩
theorem st_payload_pair {α : Type} {ar : α → List W} {po : α → W → Prop} (F : FunD K "payload_pair" "payload_pair" (defArgs s_payload_pair) (defBody s_payload_pair) (defScope s_payload_pair) [] [] f fd) (har : ∀ z, (ar z).length = 3)
    (body : ∀ c, CIs c P w K mg base k N_payload_pair L_payload_pair G_payload_pair C none (defScope s_payload_pair) → ∀ z, DSs c (envO (ar z) 2) (defBody s_payload_pair) ⟨fun _ => po z (.d .none), fun r _ => po z r, fun ds _ => po z (.d (.list ds)), fun _ => False, fun _ => False⟩) : FnX P w K mg base (k + 1) (SpD C ar po) f := by
  refine fx_D (Ls := L_payload_pair) (G := G_payload_pair) F sc_payload_pair (by decide +kernel) (by decide +kernel) (by decide +kernel) 2 rfl har (fun _ _ _ _ _ _ us hl => match us, hl with | [_, _, _], _ => by kernel_rfl) ?_
  with_reducible exact body
abbrev N_reason_at : List Str := ["one", "two", "label", "first", "second"]
abbrev L_reason_at : List Str := ["one", "two", "label", "first", "second"]
abbrev G_reason_at : List Str := ["is_talk_kind", "payload_pair", "row_of"]
theorem sc_reason_at : FnScope N_reason_at ["one", "two", "label"] (defScope s_reason_at) := ⟨rfl, rfl, rfl, by decide +kernel, rfl, by decide +kernel, by decide +kernel⟩
theorem st_reason_at {α : Type} {ar : α → List W} {po : α → W → Prop} (F : FunD K "reason_at" "reason_at" (defArgs s_reason_at) (defBody s_reason_at) (defScope s_reason_at) [] [] f fd) (har : ∀ z, (ar z).length = 3)
    (body : ∀ c, CIs c P w K mg base k N_reason_at L_reason_at G_reason_at C none (defScope s_reason_at) → ∀ z, DSs c (envO (ar z) 2) (defBody s_reason_at) ⟨fun _ => po z (.d .none), fun r _ => po z r, fun ds _ => po z (.d (.list ds)), fun _ => False, fun _ => False⟩) : FnX P w K mg base (k + 1) (SpD C ar po) f := by
  refine fx_D (Ls := L_reason_at) (G := G_reason_at) F sc_reason_at (by decide +kernel) (by decide +kernel) (by decide +kernel) 2 rfl har (fun _ _ _ _ _ _ us hl => match us, hl with | [_, _, _], _ => by kernel_rfl) ?_
  with_reducible exact body
abbrev N_reached_pairs : List Str := ["one", "two", "label", "pairs", "first", "second"]
abbrev L_reached_pairs : List Str := ["one", "two", "label", "pairs", "first", "second"]
abbrev G_reached_pairs : List Str := ["is_talk_kind", "payload_pair", "row_of"]
theorem sc_reached_pairs : FnScope N_reached_pairs ["one", "two", "label"] (defScope s_reached_pairs) := ⟨rfl, rfl, rfl, by decide +kernel, rfl, by decide +kernel, by decide +kernel⟩
theorem st_reached_pairs {α : Type} {ar : α → List W} {po : α → List PD → Prop} (F : FunD K "reached_pairs" "reached_pairs" (defArgs s_reached_pairs) (defBody s_reached_pairs) (defScope s_reached_pairs) [] [] f fd) (har : ∀ z, (ar z).length = 3)
    (body : ∀ c, CIs c P w K mg base k N_reached_pairs L_reached_pairs G_reached_pairs C none (defScope s_reached_pairs) → ∀ z, DSs c (envO (ar z) 3) (defBody s_reached_pairs) ⟨fun _ => False, fun _ _ => False, fun ds _ => po z ds, fun _ => False, fun _ => False⟩) : FnX P w K mg base (k + 1) (SpF C ar po) f := by
  refine fx_F (Ls := L_reached_pairs) (G := G_reached_pairs) F sc_reached_pairs (by decide +kernel) (by decide +kernel) (by decide +kernel) 3 rfl har (fun _ _ _ _ _ _ us hl => match us, hl with | [_, _, _], _ => by kernel_rfl) ?_
  with_reducible exact body
abbrev N_wrong_path : List Str := ["table", "one", "two", "waiting", "seen", "at", "row", "first", "second", "path", "reason", "way", "left", "right", "pair"]
abbrev L_wrong_path : List Str := ["table", "one", "two", "waiting", "seen", "at", "row", "first", "second", "path", "reason", "way", "left", "right", "pair"]
abbrev G_wrong_path : List Str := ["asked_rows", "head", "len", "reached_pairs", "reason_at"]
theorem sc_wrong_path : FnScope N_wrong_path ["table", "one", "two"] (defScope s_wrong_path) := ⟨rfl, rfl, rfl, by decide +kernel, rfl, by decide +kernel, by decide +kernel⟩
theorem st_wrong_path {α : Type} {ar : α → List W} {po : α → W → Prop} (F : FunD K "wrong_path" "wrong_path" (defArgs s_wrong_path) (defBody s_wrong_path) (defScope s_wrong_path) [] [] f fd) (har : ∀ z, (ar z).length = 3)
    (body : ∀ c, CIs c P w K mg base k N_wrong_path L_wrong_path G_wrong_path C none (defScope s_wrong_path) → ∀ z, DSs c (envO (ar z) 12) (defBody s_wrong_path) ⟨fun _ => po z (.d .none), fun r _ => po z r, fun ds _ => po z (.d (.list ds)), fun _ => False, fun _ => False⟩) : FnX P w K mg base (k + 1) (SpD C ar po) f := by
  refine fx_D (Ls := L_wrong_path) (G := G_wrong_path) F sc_wrong_path (by decide +kernel) (by decide +kernel) (by decide +kernel) 12 rfl har (fun _ _ _ _ _ _ us hl => match us, hl with | [_, _, _], _ => by kernel_rfl) ?_
  with_reducible exact body
abbrev N_is_subtalk : List Str := ["table", "one", "two"]
abbrev L_is_subtalk : List Str := ["table", "one", "two"]
abbrev G_is_subtalk : List Str := ["wrong_path"]
theorem sc_is_subtalk : FnScope N_is_subtalk ["table", "one", "two"] (defScope s_is_subtalk) := ⟨rfl, rfl, rfl, by decide +kernel, rfl, by decide +kernel, by decide +kernel⟩
theorem st_is_subtalk {α : Type} {ar : α → List W} {po : α → W → Prop} (F : FunD K "is_subtalk" "is_subtalk" (defArgs s_is_subtalk) (defBody s_is_subtalk) (defScope s_is_subtalk) [] [] f fd) (har : ∀ z, (ar z).length = 3)
    (body : ∀ c, CIs c P w K mg base k N_is_subtalk L_is_subtalk G_is_subtalk C none (defScope s_is_subtalk) → ∀ z, DSs c (envO (ar z) 0) (defBody s_is_subtalk) ⟨fun _ => po z (.d .none), fun r _ => po z r, fun ds _ => po z (.d (.list ds)), fun _ => False, fun _ => False⟩) : FnX P w K mg base (k + 1) (SpD C ar po) f := by
  refine fx_D (Ls := L_is_subtalk) (G := G_is_subtalk) F sc_is_subtalk (by decide +kernel) (by decide +kernel) (by decide +kernel) 0 rfl har (fun _ _ _ _ _ _ us hl => match us, hl with | [_, _, _], _ => by kernel_rfl) ?_
  with_reducible exact body
abbrev N_is_whole : List Str := ["value"]
abbrev L_is_whole : List Str := ["value"]
abbrev G_is_whole : List Str := ["bool", "int", "isinstance"]
theorem sc_is_whole : FnScope N_is_whole ["value"] (defScope s_is_whole) := ⟨rfl, rfl, rfl, by decide +kernel, rfl, by decide +kernel, by decide +kernel⟩
theorem st_is_whole {α : Type} {ar : α → List W} {po : α → W → Prop} (F : FunD K "is_whole" "is_whole" (defArgs s_is_whole) (defBody s_is_whole) (defScope s_is_whole) [] [] f fd) (har : ∀ z, (ar z).length = 1)
    (body : ∀ c, CIs c P w K mg base k N_is_whole L_is_whole G_is_whole C none (defScope s_is_whole) → ∀ z, DSs c (envO (ar z) 0) (defBody s_is_whole) ⟨fun _ => po z (.d .none), fun r _ => po z r, fun ds _ => po z (.d (.list ds)), fun _ => False, fun _ => False⟩) : FnX P w K mg base (k + 1) (SpD C ar po) f := by
  refine fx_D (Ls := L_is_whole) (G := G_is_whole) F sc_is_whole (by decide +kernel) (by decide +kernel) (by decide +kernel) 0 rfl har (fun _ _ _ _ _ _ us hl => match us, hl with | [_], _ => by kernel_rfl) ?_
  with_reducible exact body
abbrev N_is_end : List Str := ["value"]
abbrev L_is_end : List Str := ["value"]
abbrev G_is_end : List Str := ["is_whole", "isinstance", "len", "str", "tuple"]
theorem sc_is_end : FnScope N_is_end ["value"] (defScope s_is_end) := ⟨rfl, rfl, rfl, by decide +kernel, rfl, by decide +kernel, by decide +kernel⟩
theorem st_is_end {α : Type} {ar : α → List W} {po : α → W → Prop} (F : FunD K "is_end" "is_end" (defArgs s_is_end) (defBody s_is_end) (defScope s_is_end) [] [] f fd) (har : ∀ z, (ar z).length = 1)
    (body : ∀ c, CIs c P w K mg base k N_is_end L_is_end G_is_end C none (defScope s_is_end) → ∀ z, DSs c (envO (ar z) 0) (defBody s_is_end) ⟨fun _ => po z (.d .none), fun r _ => po z r, fun ds _ => po z (.d (.list ds)), fun _ => False, fun _ => False⟩) : FnX P w K mg base (k + 1) (SpD C ar po) f := by
  refine fx_D (Ls := L_is_end) (G := G_is_end) F sc_is_end (by decide +kernel) (by decide +kernel) (by decide +kernel) 0 rfl har (fun _ _ _ _ _ _ us hl => match us, hl with | [_], _ => by kernel_rfl) ?_
  with_reducible exact body
abbrev N_is_kind : List Str := ["table", "kind"]
abbrev L_is_kind : List Str := ["table", "kind"]
abbrev G_is_kind : List Str := ["isinstance", "len", "str", "tuple"]
theorem sc_is_kind : FnScope N_is_kind ["table", "kind"] (defScope s_is_kind) := ⟨rfl, rfl, rfl, by decide +kernel, rfl, by decide +kernel, by decide +kernel⟩
theorem st_is_kind {α : Type} {ar : α → List W} {po : α → W → Prop} (F : FunD K "is_kind" "is_kind" (defArgs s_is_kind) (defBody s_is_kind) (defScope s_is_kind) [] [] f fd) (har : ∀ z, (ar z).length = 2)
    (body : ∀ c, CIs c P w K mg base k N_is_kind L_is_kind G_is_kind C none (defScope s_is_kind) → ∀ z, DSs c (envO (ar z) 0) (defBody s_is_kind) ⟨fun _ => po z (.d .none), fun r _ => po z r, fun ds _ => po z (.d (.list ds)), fun _ => False, fun _ => False⟩) : FnX P w K mg base (k + 1) (SpD C ar po) f := by
  refine fx_D (Ls := L_is_kind) (G := G_is_kind) F sc_is_kind (by decide +kernel) (by decide +kernel) (by decide +kernel) 0 rfl har (fun _ _ _ _ _ _ us hl => match us, hl with | [_, _], _ => by kernel_rfl) ?_
  with_reducible exact body
abbrev N_ends_of : List Str := ["messages", "label", "payload"]
abbrev L_ends_of : List Str := ["messages"]
abbrev G_ends_of : List Str := []
theorem sc_ends_of : FnScope N_ends_of ["messages"] (defScope s_ends_of) := ⟨rfl, rfl, rfl, by decide +kernel, rfl, by decide +kernel, by decide +kernel⟩
theorem st_ends_of {α : Type} {ar : α → List W} {po : α → List PD → Prop} (F : FunD K "ends_of" "ends_of" (defArgs s_ends_of) (defBody s_ends_of) (defScope s_ends_of) [] [] f fd) (har : ∀ z, (ar z).length = 1)
    (body : ∀ c, CIs c P w K mg base k N_ends_of L_ends_of G_ends_of C none (defScope s_ends_of) → ∀ z, DSs c (envO (ar z) 2) (defBody s_ends_of) ⟨fun _ => False, fun _ _ => False, fun ds _ => po z ds, fun _ => False, fun _ => False⟩) : FnX P w K mg base (k + 1) (SpF C ar po) f := by
  refine fx_F (Ls := L_ends_of) (G := G_ends_of) F sc_ends_of (by decide +kernel) (by decide +kernel) (by decide +kernel) 2 rfl har (fun _ _ _ _ _ _ us hl => match us, hl with | [_], _ => by kernel_rfl) ?_
  with_reducible exact body
abbrev N_Ledger___init__ : List Str := ["self", "table"]
abbrev L_Ledger___init__ : List Str := ["self", "table"]
abbrev G_Ledger___init__ : List Str := ["dict"]
theorem sc_Ledger___init__ : FnScope N_Ledger___init__ ["self", "table"] (defScope s_Ledger___init__) := ⟨rfl, rfl, rfl, by decide +kernel, rfl, by decide +kernel, by decide +kernel⟩
abbrev N_Ledger_allows : List Str := ["self", "event", "name", "place"]
abbrev L_Ledger_allows : List Str := ["self", "event", "name", "place"]
abbrev G_Ledger_allows : List Str := ["PARTS", "is_whole", "isinstance", "len", "str", "tuple"]
theorem sc_Ledger_allows : FnScope N_Ledger_allows ["self", "event"] (defScope s_Ledger_allows) := ⟨rfl, rfl, rfl, by decide +kernel, rfl, by decide +kernel, by decide +kernel⟩
theorem st_Ledger_allows {α : Type} {ar : α → List W} {po : α → W → Prop} (F : FunD K "allows" "Ledger.allows" (defArgs s_Ledger_allows) (defBody s_Ledger_allows) (defScope s_Ledger_allows) [] [] f fd) (har : ∀ z, (ar z).length = 2)
    (body : ∀ c, CIs c P w K mg base k N_Ledger_allows L_Ledger_allows G_Ledger_allows C none (defScope s_Ledger_allows) → ∀ z, DSs c (envO (ar z) 2) (defBody s_Ledger_allows) ⟨fun _ => po z (.d .none), fun r _ => po z r, fun ds _ => po z (.d (.list ds)), fun _ => False, fun _ => False⟩) : FnX P w K mg base (k + 1) (SpD C ar po) f := by
  refine fx_D (Ls := L_Ledger_allows) (G := G_Ledger_allows) F sc_Ledger_allows (by decide +kernel) (by decide +kernel) (by decide +kernel) 2 rfl har (fun _ _ _ _ _ _ us hl => match us, hl with | [_, _], _ => by kernel_rfl) ?_
  with_reducible exact body
abbrev N_Ledger__is_running : List Str := ["self", "actor"]
abbrev L_Ledger__is_running : List Str := ["self", "actor"]
abbrev G_Ledger__is_running : List Str := ["is_whole", "len"]
theorem sc_Ledger__is_running : FnScope N_Ledger__is_running ["self", "actor"] (defScope s_Ledger__is_running) := ⟨rfl, rfl, rfl, by decide +kernel, rfl, by decide +kernel, by decide +kernel⟩
theorem st_Ledger__is_running {α : Type} {ar : α → List W} {po : α → W → Prop} (F : FunD K "_is_running" "Ledger._is_running" (defArgs s_Ledger__is_running) (defBody s_Ledger__is_running) (defScope s_Ledger__is_running) [] [] f fd) (har : ∀ z, (ar z).length = 2)
    (body : ∀ c, CIs c P w K mg base k N_Ledger__is_running L_Ledger__is_running G_Ledger__is_running C none (defScope s_Ledger__is_running) → ∀ z, DSs c (envO (ar z) 0) (defBody s_Ledger__is_running) ⟨fun _ => po z (.d .none), fun r _ => po z r, fun ds _ => po z (.d (.list ds)), fun _ => False, fun _ => False⟩) : FnX P w K mg base (k + 1) (SpD C ar po) f := by
  refine fx_D (Ls := L_Ledger__is_running) (G := G_Ledger__is_running) F sc_Ledger__is_running (by decide +kernel) (by decide +kernel) (by decide +kernel) 0 rfl har (fun _ _ _ _ _ _ us hl => match us, hl with | [_, _], _ => by kernel_rfl) ?_
  with_reducible exact body
abbrev N_Ledger__allows_open : List Str := ["self", "event"]
abbrev L_Ledger__allows_open : List Str := ["self", "event"]
abbrev G_Ledger__allows_open : List Str := ["is_kind", "is_whole", "len"]
theorem sc_Ledger__allows_open : FnScope N_Ledger__allows_open ["self", "event"] (defScope s_Ledger__allows_open) := ⟨rfl, rfl, rfl, by decide +kernel, rfl, by decide +kernel, by decide +kernel⟩
theorem st_Ledger__allows_open {α : Type} {ar : α → List W} {po : α → W → Prop} (F : FunD K "_allows_open" "Ledger._allows_open" (defArgs s_Ledger__allows_open) (defBody s_Ledger__allows_open) (defScope s_Ledger__allows_open) [] [] f fd) (har : ∀ z, (ar z).length = 2)
    (body : ∀ c, CIs c P w K mg base k N_Ledger__allows_open L_Ledger__allows_open G_Ledger__allows_open C none (defScope s_Ledger__allows_open) → ∀ z, DSs c (envO (ar z) 0) (defBody s_Ledger__allows_open) ⟨fun _ => po z (.d .none), fun r _ => po z r, fun ds _ => po z (.d (.list ds)), fun _ => False, fun _ => False⟩) : FnX P w K mg base (k + 1) (SpD C ar po) f := by
  refine fx_D (Ls := L_Ledger__allows_open) (G := G_Ledger__allows_open) F sc_Ledger__allows_open (by decide +kernel) (by decide +kernel) (by decide +kernel) 0 rfl har (fun _ _ _ _ _ _ us hl => match us, hl with | [_, _], _ => by kernel_rfl) ?_
  with_reducible exact body
abbrev N_Ledger__allows_at : List Str := ["self", "event", "place", "name", "talk", "row", "partner"]
abbrev L_Ledger__allows_at : List Str := ["self", "event", "place", "name", "talk", "row", "partner"]
abbrev G_Ledger__allows_at : List Str := ["head", "isinstance", "row_of", "str"]
theorem sc_Ledger__allows_at : FnScope N_Ledger__allows_at ["self", "event", "place"] (defScope s_Ledger__allows_at) := ⟨rfl, rfl, rfl, by decide +kernel, rfl, by decide +kernel, by decide +kernel⟩
theorem st_Ledger__allows_at {α : Type} {ar : α → List W} {po : α → W → Prop} (F : FunD K "_allows_at" "Ledger._allows_at" (defArgs s_Ledger__allows_at) (defBody s_Ledger__allows_at) (defScope s_Ledger__allows_at) [] [] f fd) (har : ∀ z, (ar z).length = 3)
    (body : ∀ c, CIs c P w K mg base k N_Ledger__allows_at L_Ledger__allows_at G_Ledger__allows_at C none (defScope s_Ledger__allows_at) → ∀ z, DSs c (envO (ar z) 4) (defBody s_Ledger__allows_at) ⟨fun _ => po z (.d .none), fun r _ => po z r, fun ds _ => po z (.d (.list ds)), fun _ => False, fun _ => False⟩) : FnX P w K mg base (k + 1) (SpD C ar po) f := by
  refine fx_D (Ls := L_Ledger__allows_at) (G := G_Ledger__allows_at) F sc_Ledger__allows_at (by decide +kernel) (by decide +kernel) (by decide +kernel) 4 rfl har (fun _ _ _ _ _ _ us hl => match us, hl with | [_, _, _], _ => by kernel_rfl) ?_
  with_reducible exact body
abbrev N_Ledger__is_payload : List Str := ["self", "kind", "payload", "place", "given"]
abbrev L_Ledger__is_payload : List Str := ["self", "kind", "payload", "place", "given"]
abbrev G_Ledger__is_payload : List Str := ["MOST", "bool", "is_end", "is_subtalk", "is_whole", "isinstance"]
theorem sc_Ledger__is_payload : FnScope N_Ledger__is_payload ["self", "kind", "payload", "place"] (defScope s_Ledger__is_payload) := ⟨rfl, rfl, rfl, by decide +kernel, rfl, by decide +kernel, by decide +kernel⟩
theorem st_Ledger__is_payload {α : Type} {ar : α → List W} {po : α → W → Prop} (F : FunD K "_is_payload" "Ledger._is_payload" (defArgs s_Ledger__is_payload) (defBody s_Ledger__is_payload) (defScope s_Ledger__is_payload) [] [] f fd) (har : ∀ z, (ar z).length = 4)
    (body : ∀ c, CIs c P w K mg base k N_Ledger__is_payload L_Ledger__is_payload G_Ledger__is_payload C none (defScope s_Ledger__is_payload) → ∀ z, DSs c (envO (ar z) 1) (defBody s_Ledger__is_payload) ⟨fun _ => po z (.d .none), fun r _ => po z r, fun ds _ => po z (.d (.list ds)), fun _ => False, fun _ => False⟩) : FnX P w K mg base (k + 1) (SpD C ar po) f := by
  refine fx_D (Ls := L_Ledger__is_payload) (G := G_Ledger__is_payload) F sc_Ledger__is_payload (by decide +kernel) (by decide +kernel) (by decide +kernel) 1 rfl har (fun _ _ _ _ _ _ us hl => match us, hl with | [_, _, _, _], _ => by kernel_rfl) ?_
  with_reducible exact body
abbrev N_Ledger__is_oldest : List Str := ["self", "label", "payload", "place", "oldest"]
abbrev L_Ledger__is_oldest : List Str := ["self", "label", "payload", "place", "oldest"]
abbrev G_Ledger__is_oldest : List Str := ["bool", "is_end", "isinstance"]
theorem sc_Ledger__is_oldest : FnScope N_Ledger__is_oldest ["self", "label", "payload", "place"] (defScope s_Ledger__is_oldest) := ⟨rfl, rfl, rfl, by decide +kernel, rfl, by decide +kernel, by decide +kernel⟩
theorem st_Ledger__is_oldest {α : Type} {ar : α → List W} {po : α → W → Prop} (F : FunD K "_is_oldest" "Ledger._is_oldest" (defArgs s_Ledger__is_oldest) (defBody s_Ledger__is_oldest) (defScope s_Ledger__is_oldest) [] [] f fd) (har : ∀ z, (ar z).length = 4)
    (body : ∀ c, CIs c P w K mg base k N_Ledger__is_oldest L_Ledger__is_oldest G_Ledger__is_oldest C none (defScope s_Ledger__is_oldest) → ∀ z, DSs c (envO (ar z) 1) (defBody s_Ledger__is_oldest) ⟨fun _ => po z (.d .none), fun r _ => po z r, fun ds _ => po z (.d (.list ds)), fun _ => False, fun _ => False⟩) : FnX P w K mg base (k + 1) (SpD C ar po) f := by
  refine fx_D (Ls := L_Ledger__is_oldest) (G := G_Ledger__is_oldest) F sc_Ledger__is_oldest (by decide +kernel) (by decide +kernel) (by decide +kernel) 1 rfl har (fun _ _ _ _ _ _ us hl => match us, hl with | [_, _, _, _], _ => by kernel_rfl) ?_
  with_reducible exact body
abbrev N_Ledger_enter : List Str := ["self", "event", "name"]
abbrev L_Ledger_enter : List Str := ["self", "event", "name"]
abbrev G_Ledger_enter : List Str := ["Misused"]
theorem sc_Ledger_enter : FnScope N_Ledger_enter ["self", "event"] (defScope s_Ledger_enter) := ⟨rfl, rfl, rfl, by decide +kernel, rfl, by decide +kernel, by decide +kernel⟩
theorem st_Ledger_enter {α : Type} {a1 a2 : α → List W} {sl : α → OKd × Co} {po : α → OKd → Co → Prop} (F : FunD K "enter" "Ledger.enter" (defArgs s_Ledger_enter) (defBody s_Ledger_enter) (defScope s_Ledger_enter) [] [] f fd) (har : ∀ z, (a1 z).length = 0 ∧ (a1 z).length + 1 + (a2 z).length = 2)
    (body : ∀ c, CIs c P w K mg base k N_Ledger_enter L_Ledger_enter G_Ledger_enter C none (defScope s_Ledger_enter) → ∀ z A, DSs c (envM (a1 z) (ow (sl z).1 A (sl z).2) (a2 z) 1) (defBody s_Ledger_enter) ⟨endM 0 A.a (po z), fun r env => r = .d .none ∧ endM 0 A.a (po z) env, fun _ _ => False, fun _ => False, fun _ => False⟩) : FnX P w K mg base (k + 1) (SpM C a1 a2 sl po) f := by
  refine fx_M (Ls := L_Ledger_enter) (G := G_Ledger_enter) 0 F sc_Ledger_enter (by decide +kernel) (by decide +kernel) (by decide +kernel) 1 rfl har (fun _ _ _ _ _ _ us hl => match us, hl with | [_, _], _ => by kernel_rfl) ?_
  with_reducible exact body
abbrev N_Ledger__enter_open : List Str := ["self", "kind", "side", "place"]
abbrev L_Ledger__enter_open : List Str := ["self", "kind", "side", "place"]
abbrev G_Ledger__enter_open : List Str := ["dual_kind", "range"]
theorem sc_Ledger__enter_open : FnScope N_Ledger__enter_open ["self", "kind"] (defScope s_Ledger__enter_open) := ⟨rfl, rfl, rfl, by decide +kernel, rfl, by decide +kernel, by decide +kernel⟩
theorem st_Ledger__enter_open {α : Type} {a1 a2 : α → List W} {sl : α → OKd × Co} {po : α → OKd → Co → Prop} (F : FunD K "_enter_open" "Ledger._enter_open" (defArgs s_Ledger__enter_open) (defBody s_Ledger__enter_open) (defScope s_Ledger__enter_open) [] [] f fd) (har : ∀ z, (a1 z).length = 0 ∧ (a1 z).length + 1 + (a2 z).length = 2)
    (body : ∀ c, CIs c P w K mg base k N_Ledger__enter_open L_Ledger__enter_open G_Ledger__enter_open C none (defScope s_Ledger__enter_open) → ∀ z A, DSs c (envM (a1 z) (ow (sl z).1 A (sl z).2) (a2 z) 2) (defBody s_Ledger__enter_open) ⟨endM 0 A.a (po z), fun r env => r = .d .none ∧ endM 0 A.a (po z) env, fun _ _ => False, fun _ => False, fun _ => False⟩) : FnX P w K mg base (k + 1) (SpM C a1 a2 sl po) f := by
  refine fx_M (Ls := L_Ledger__enter_open) (G := G_Ledger__enter_open) 0 F sc_Ledger__enter_open (by decide +kernel) (by decide +kernel) (by decide +kernel) 2 rfl har (fun _ _ _ _ _ _ us hl => match us, hl with | [_, _], _ => by kernel_rfl) ?_
  with_reducible exact body
abbrev N_Ledger__enter_at : List Str := ["self", "event", "place", "name", "row"]
abbrev L_Ledger__enter_at : List Str := ["self", "event", "place", "name", "row"]
abbrev G_Ledger__enter_at : List Str := ["head", "row_of"]
theorem sc_Ledger__enter_at : FnScope N_Ledger__enter_at ["self", "event", "place"] (defScope s_Ledger__enter_at) := ⟨rfl, rfl, rfl, by decide +kernel, rfl, by decide +kernel, by decide +kernel⟩
theorem st_Ledger__enter_at {α : Type} {a1 a2 : α → List W} {sl : α → OKd × Co} {po : α → OKd → Co → Prop} (F : FunD K "_enter_at" "Ledger._enter_at" (defArgs s_Ledger__enter_at) (defBody s_Ledger__enter_at) (defScope s_Ledger__enter_at) [] [] f fd) (har : ∀ z, (a1 z).length = 0 ∧ (a1 z).length + 1 + (a2 z).length = 3)
    (body : ∀ c, CIs c P w K mg base k N_Ledger__enter_at L_Ledger__enter_at G_Ledger__enter_at C none (defScope s_Ledger__enter_at) → ∀ z A, DSs c (envM (a1 z) (ow (sl z).1 A (sl z).2) (a2 z) 2) (defBody s_Ledger__enter_at) ⟨endM 0 A.a (po z), fun r env => r = .d .none ∧ endM 0 A.a (po z) env, fun _ _ => False, fun _ => False, fun _ => False⟩) : FnX P w K mg base (k + 1) (SpM C a1 a2 sl po) f := by
  refine fx_M (Ls := L_Ledger__enter_at) (G := G_Ledger__enter_at) 0 F sc_Ledger__enter_at (by decide +kernel) (by decide +kernel) (by decide +kernel) 2 rfl har (fun _ _ _ _ _ _ us hl => match us, hl with | [_, _, _], _ => by kernel_rfl) ?_
  with_reducible exact body
abbrev N_Ledger__say : List Str := ["self", "label", "payload", "partner", "lost", "given"]
abbrev L_Ledger__say : List Str := ["self", "label", "payload", "partner", "lost", "given"]
abbrev G_Ledger__say : List Str := ["is_end"]
theorem sc_Ledger__say : FnScope N_Ledger__say ["self", "label", "payload", "partner"] (defScope s_Ledger__say) := ⟨rfl, rfl, rfl, by decide +kernel, rfl, by decide +kernel, by decide +kernel⟩
theorem st_Ledger__say {α : Type} {a1 a2 : α → List W} {sl : α → OKd × Co} {po : α → OKd → Co → Prop} (F : FunD K "_say" "Ledger._say" (defArgs s_Ledger__say) (defBody s_Ledger__say) (defScope s_Ledger__say) [] [] f fd) (har : ∀ z, (a1 z).length = 0 ∧ (a1 z).length + 1 + (a2 z).length = 4)
    (body : ∀ c, CIs c P w K mg base k N_Ledger__say L_Ledger__say G_Ledger__say C none (defScope s_Ledger__say) → ∀ z A, DSs c (envM (a1 z) (ow (sl z).1 A (sl z).2) (a2 z) 2) (defBody s_Ledger__say) ⟨endM 0 A.a (po z), fun r env => r = .d .none ∧ endM 0 A.a (po z) env, fun _ _ => False, fun _ => False, fun _ => False⟩) : FnX P w K mg base (k + 1) (SpM C a1 a2 sl po) f := by
  refine fx_M (Ls := L_Ledger__say) (G := G_Ledger__say) 0 F sc_Ledger__say (by decide +kernel) (by decide +kernel) (by decide +kernel) 2 rfl har (fun _ _ _ _ _ _ us hl => match us, hl with | [_, _, _, _], _ => by kernel_rfl) ?_
  with_reducible exact body
abbrev N_Ledger__hear : List Str := ["self", "place", "payload"]
abbrev L_Ledger__hear : List Str := ["self", "place", "payload"]
abbrev G_Ledger__hear : List Str := ["is_end"]
theorem sc_Ledger__hear : FnScope N_Ledger__hear ["self", "place"] (defScope s_Ledger__hear) := ⟨rfl, rfl, rfl, by decide +kernel, rfl, by decide +kernel, by decide +kernel⟩
theorem st_Ledger__hear {α : Type} {a1 a2 : α → List W} {sl : α → OKd × Co} {po : α → OKd → Co → Prop} (F : FunD K "_hear" "Ledger._hear" (defArgs s_Ledger__hear) (defBody s_Ledger__hear) (defScope s_Ledger__hear) [] [] f fd) (har : ∀ z, (a1 z).length = 0 ∧ (a1 z).length + 1 + (a2 z).length = 2)
    (body : ∀ c, CIs c P w K mg base k N_Ledger__hear L_Ledger__hear G_Ledger__hear C none (defScope s_Ledger__hear) → ∀ z A, DSs c (envM (a1 z) (ow (sl z).1 A (sl z).2) (a2 z) 1) (defBody s_Ledger__hear) ⟨endM 0 A.a (po z), fun r env => r = .d .none ∧ endM 0 A.a (po z) env, fun _ _ => False, fun _ => False, fun _ => False⟩) : FnX P w K mg base (k + 1) (SpM C a1 a2 sl po) f := by
  refine fx_M (Ls := L_Ledger__hear) (G := G_Ledger__hear) 0 F sc_Ledger__hear (by decide +kernel) (by decide +kernel) (by decide +kernel) 1 rfl har (fun _ _ _ _ _ _ us hl => match us, hl with | [_, _], _ => by kernel_rfl) ?_
  with_reducible exact body
abbrev N_Ledger__leave : List Str := ["self", "place", "mark"]
abbrev L_Ledger__leave : List Str := ["self", "place", "mark"]
abbrev G_Ledger__leave : List Str := ["ends_of"]
theorem sc_Ledger__leave : FnScope N_Ledger__leave ["self", "place", "mark"] (defScope s_Ledger__leave) := ⟨rfl, rfl, rfl, by decide +kernel, rfl, by decide +kernel, by decide +kernel⟩
theorem st_Ledger__leave {α : Type} {a1 a2 : α → List W} {sl : α → OKd × Co} {po : α → OKd → Co → Prop} (F : FunD K "_leave" "Ledger._leave" (defArgs s_Ledger__leave) (defBody s_Ledger__leave) (defScope s_Ledger__leave) [] [] f fd) (har : ∀ z, (a1 z).length = 0 ∧ (a1 z).length + 1 + (a2 z).length = 3)
    (body : ∀ c, CIs c P w K mg base k N_Ledger__leave L_Ledger__leave G_Ledger__leave C none (defScope s_Ledger__leave) → ∀ z A, DSs c (envM (a1 z) (ow (sl z).1 A (sl z).2) (a2 z) 0) (defBody s_Ledger__leave) ⟨endM 0 A.a (po z), fun r env => r = .d .none ∧ endM 0 A.a (po z) env, fun _ _ => False, fun _ => False, fun _ => False⟩) : FnX P w K mg base (k + 1) (SpM C a1 a2 sl po) f := by
  refine fx_M (Ls := L_Ledger__leave) (G := G_Ledger__leave) 0 F sc_Ledger__leave (by decide +kernel) (by decide +kernel) (by decide +kernel) 0 rfl har (fun _ _ _ _ _ _ us hl => match us, hl with | [_, _, _], _ => by kernel_rfl) ?_
  with_reducible exact body
abbrev N_Ledger_owed : List Str := ["self"]
abbrev L_Ledger_owed : List Str := ["self"]
abbrev G_Ledger_owed : List Str := ["list"]
theorem sc_Ledger_owed : FnScope N_Ledger_owed ["self"] (defScope s_Ledger_owed) := ⟨rfl, rfl, rfl, by decide +kernel, rfl, by decide +kernel, by decide +kernel⟩
theorem st_Ledger_owed {α : Type} {ar : α → List W} {po : α → List PD → Prop} (F : FunD K "owed" "Ledger.owed" (defArgs s_Ledger_owed) (defBody s_Ledger_owed) (defScope s_Ledger_owed) [] [] f fd) (har : ∀ z, (ar z).length = 1)
    (body : ∀ c, CIs c P w K mg base k N_Ledger_owed L_Ledger_owed G_Ledger_owed C none (defScope s_Ledger_owed) → ∀ z, DSs c (envO (ar z) 0) (defBody s_Ledger_owed) ⟨fun _ => False, fun _ _ => False, fun ds _ => po z ds, fun _ => False, fun _ => False⟩) : FnX P w K mg base (k + 1) (SpF C ar po) f := by
  refine fx_F (Ls := L_Ledger_owed) (G := G_Ledger_owed) F sc_Ledger_owed (by decide +kernel) (by decide +kernel) (by decide +kernel) 0 rfl har (fun _ _ _ _ _ _ us hl => match us, hl with | [_], _ => by kernel_rfl) ?_
  with_reducible exact body
abbrev N_judge : List Str := ["table", "trace", "ledger", "index"]
abbrev L_judge : List Str := ["table", "trace", "ledger", "index"]
abbrev G_judge : List Str := ["Ledger", "len", "range"]
theorem sc_judge : FnScope N_judge ["table", "trace"] (defScope s_judge) := ⟨rfl, rfl, rfl, by decide +kernel, rfl, by decide +kernel, by decide +kernel⟩
theorem st_judge {α : Type} {ar : α → List W} {po : α → W → Prop} (F : FunD K "judge" "judge" (defArgs s_judge) (defBody s_judge) (defScope s_judge) [] [] f fd) (har : ∀ z, (ar z).length = 2)
    (body : ∀ c, CIs c P w K mg base k N_judge L_judge G_judge C none (defScope s_judge) → ∀ z, DSs c (envO (ar z) 2) (defBody s_judge) ⟨fun _ => po z (.d .none), fun r _ => po z r, fun ds _ => po z (.d (.list ds)), fun _ => False, fun _ => False⟩) : FnX P w K mg base (k + 1) (SpD C ar po) f := by
  refine fx_D (Ls := L_judge) (G := G_judge) F sc_judge (by decide +kernel) (by decide +kernel) (by decide +kernel) 2 rfl har (fun _ _ _ _ _ _ us hl => match us, hl with | [_, _], _ => by kernel_rfl) ?_
  with_reducible exact body
abbrev N__law_wide : List Str := ["_law_script", "_law_k", "_law_cell", "_law_mixed"]
abbrev L__law_wide : List Str := ["_law_script", "_law_k", "_law_cell", "_law_mixed"]
abbrev G__law_wide : List Str := ["abs", "int", "len"]
theorem sc__law_wide : FnScope N__law_wide ["_law_script", "_law_k"] (defScope s__law_wide) := ⟨rfl, rfl, rfl, by decide +kernel, rfl, by decide +kernel, by decide +kernel⟩
theorem st__law_wide {α : Type} {ar : α → List W} {po : α → W → Prop} (F : FunD K "_law_wide" "_law_wide" (defArgs s__law_wide) (defBody s__law_wide) (defScope s__law_wide) [] [] f fd) (har : ∀ z, (ar z).length = 2)
    (body : ∀ c, CIs c P w K mg base k N__law_wide L__law_wide G__law_wide C none (defScope s__law_wide) → ∀ z, DSs c (envO (ar z) 2) (defBody s__law_wide) ⟨fun _ => po z (.d .none), fun r _ => po z r, fun ds _ => po z (.d (.list ds)), fun _ => False, fun _ => False⟩) : FnX P w K mg base (k + 1) (SpD C ar po) f := by
  refine fx_D (Ls := L__law_wide) (G := G__law_wide) F sc__law_wide (by decide +kernel) (by decide +kernel) (by decide +kernel) 2 rfl har (fun _ _ _ _ _ _ us hl => match us, hl with | [_, _], _ => by kernel_rfl) ?_
  with_reducible exact body
abbrev N__law_take : List Str := ["_law_pool_here", "_law_most", "_law_value"]
abbrev L__law_take : List Str := ["_law_pool_here", "_law_most", "_law_value"]
abbrev G__law_take : List Str := ["_law_wide", "int"]
theorem sc__law_take : FnScope N__law_take ["_law_pool_here", "_law_most"] (defScope s__law_take) := ⟨rfl, rfl, rfl, by decide +kernel, rfl, by decide +kernel, by decide +kernel⟩
abbrev N__law_pool : List Str := ["_law_script"]
abbrev L__law_pool : List Str := ["_law_script"]
abbrev G__law_pool : List Str := ["list"]
theorem sc__law_pool : FnScope N__law_pool ["_law_script"] (defScope s__law_pool) := ⟨rfl, rfl, rfl, by decide +kernel, rfl, by decide +kernel, by decide +kernel⟩
abbrev N__law_names : List Str := ["_law_pool_here", "_law_first", "_law_second"]
abbrev L__law_names : List Str := ["_law_pool_here", "_law_first", "_law_second"]
abbrev G__law_names : List Str := ["_law_take"]
theorem sc__law_names : FnScope N__law_names ["_law_pool_here"] (defScope s__law_names) := ⟨rfl, rfl, rfl, by decide +kernel, rfl, by decide +kernel, by decide +kernel⟩
theorem st__law_names {α : Type} {ar : α → List W} {po : α → List PD → Prop} (F : FunD K "_law_names" "_law_names" (defArgs s__law_names) (defBody s__law_names) (defScope s__law_names) [] [] f fd) (har : ∀ z, (ar z).length + 1 = 1)
    (body : ∀ c pl, CIs c P w K mg base k N__law_names L__law_names G__law_names C pl (defScope s__law_names) → ∀ z, DSs c (some .pool :: envO (ar z) 2) (defBody s__law_names) ⟨fun _ => False, fun _ _ => False, fun ds _ => po z ds, fun _ => False, fun _ => False⟩) : FnX P w K mg base (k + 1) (SpFP C ar po) f := by
  refine fx_FP (Ls := L__law_names) (G := G__law_names) F sc__law_names (by decide +kernel) (by decide +kernel) (by decide +kernel) 2 rfl har (fun _ _ _ _ _ _ us hl => match us, hl with | [_], _ => by kernel_rfl) ?_
  with_reducible exact body
abbrev N__law_kind : List Str := ["_law_pool_here", "_law_names_here", "_law_choice"]
abbrev L__law_kind : List Str := ["_law_pool_here", "_law_names_here", "_law_choice"]
abbrev G__law_kind : List Str := ["_law_take", "len"]
theorem sc__law_kind : FnScope N__law_kind ["_law_pool_here", "_law_names_here"] (defScope s__law_kind) := ⟨rfl, rfl, rfl, by decide +kernel, rfl, by decide +kernel, by decide +kernel⟩
theorem st__law_kind {α : Type} {ar : α → List W} {po : α → W → Prop} (F : FunD K "_law_kind" "_law_kind" (defArgs s__law_kind) (defBody s__law_kind) (defScope s__law_kind) [] [] f fd) (har : ∀ z, (ar z).length + 1 = 2)
    (body : ∀ c pl, CIs c P w K mg base k N__law_kind L__law_kind G__law_kind C pl (defScope s__law_kind) → ∀ z, DSs c (some .pool :: envO (ar z) 1) (defBody s__law_kind) ⟨fun _ => po z (.d .none), fun r _ => po z r, fun ds _ => po z (.d (.list ds)), fun _ => False, fun _ => False⟩) : FnX P w K mg base (k + 1) (SpDP C ar po) f := by
  refine fx_DP (Ls := L__law_kind) (G := G__law_kind) F sc__law_kind (by decide +kernel) (by decide +kernel) (by decide +kernel) 1 rfl har (fun _ _ _ _ _ _ us hl => match us, hl with | [_, _], _ => by kernel_rfl) ?_
  with_reducible exact body
abbrev N__law_label : List Str := ["_law_pool_here"]
abbrev L__law_label : List Str := ["_law_pool_here"]
abbrev G__law_label : List Str := ["_law_take"]
theorem sc__law_label : FnScope N__law_label ["_law_pool_here"] (defScope s__law_label) := ⟨rfl, rfl, rfl, by decide +kernel, rfl, by decide +kernel, by decide +kernel⟩
theorem st__law_label {α : Type} {ar : α → List W} {po : α → W → Prop} (F : FunD K "_law_label" "_law_label" (defArgs s__law_label) (defBody s__law_label) (defScope s__law_label) [] [] f fd) (har : ∀ z, (ar z).length + 1 = 1)
    (body : ∀ c pl, CIs c P w K mg base k N__law_label L__law_label G__law_label C pl (defScope s__law_label) → ∀ z, DSs c (some .pool :: envO (ar z) 0) (defBody s__law_label) ⟨fun _ => po z (.d .none), fun r _ => po z r, fun ds _ => po z (.d (.list ds)), fun _ => False, fun _ => False⟩) : FnX P w K mg base (k + 1) (SpDP C ar po) f := by
  refine fx_DP (Ls := L__law_label) (G := G__law_label) F sc__law_label (by decide +kernel) (by decide +kernel) (by decide +kernel) 0 rfl har (fun _ _ _ _ _ _ us hl => match us, hl with | [_], _ => by kernel_rfl) ?_
  with_reducible exact body
abbrev N__law_talk : List Str := ["_law_pool_here", "_law_names_here", "_law_depth", "_law_choice", "_law_rows", "_law_k", "_law_label_here", "_law_payload_here", "_law_row_here"]
abbrev L__law_talk : List Str := ["_law_pool_here", "_law_names_here", "_law_depth", "_law_choice", "_law_rows", "_law_k", "_law_label_here", "_law_payload_here"]
abbrev G__law_talk : List Str := ["_law_kind", "_law_label", "_law_take", "_law_talk", "int", "len", "range", "tuple"]
theorem sc__law_talk : FnScope N__law_talk ["_law_pool_here", "_law_names_here", "_law_depth"] (defScope s__law_talk) := ⟨rfl, rfl, rfl, by decide +kernel, rfl, by decide +kernel, by decide +kernel⟩
theorem st__law_talk {α : Type} {ar : α → List W} {po : α → W → Prop} (F : FunD K "_law_talk" "_law_talk" (defArgs s__law_talk) (defBody s__law_talk) (defScope s__law_talk) [] [] f fd) (har : ∀ z, (ar z).length + 1 = 3)
    (body : ∀ c pl, CIs c P w K mg base k N__law_talk L__law_talk G__law_talk C pl (defScope s__law_talk) → ∀ z, DSs c (some .pool :: envO (ar z) 6) (defBody s__law_talk) ⟨fun _ => po z (.d .none), fun r _ => po z r, fun ds _ => po z (.d (.list ds)), fun _ => False, fun _ => False⟩) : FnX P w K mg base (k + 1) (SpDP C ar po) f := by
  refine fx_DP (Ls := L__law_talk) (G := G__law_talk) F sc__law_talk (by decide +kernel) (by decide +kernel) (by decide +kernel) 6 rfl har (fun _ _ _ _ _ _ us hl => match us, hl with | [_, _, _], _ => by kernel_rfl) ?_
  with_reducible exact body
abbrev N__law_table : List Str := ["_law_pool_here", "_law_names_here", "_law_table_here", "_law_k", "_law_talk_here"]
abbrev L__law_table : List Str := ["_law_pool_here", "_law_names_here", "_law_table_here", "_law_k", "_law_talk_here"]
abbrev G__law_table : List Str := ["_law_names", "_law_take", "_law_talk", "len", "range"]
theorem sc__law_table : FnScope N__law_table ["_law_pool_here"] (defScope s__law_table) := ⟨rfl, rfl, rfl, by decide +kernel, rfl, by decide +kernel, by decide +kernel⟩
theorem st__law_table {α : Type} {ar : α → List W} {po : α → W → Prop} (F : FunD K "_law_table" "_law_table" (defArgs s__law_table) (defBody s__law_table) (defScope s__law_table) [] [] f fd) (har : ∀ z, (ar z).length + 1 = 1)
    (body : ∀ c pl, CIs c P w K mg base k N__law_table L__law_table G__law_table C pl (defScope s__law_table) → ∀ z, DSs c (some .pool :: envO (ar z) 4) (defBody s__law_table) ⟨fun _ => po z (.d .none), fun r _ => po z r, fun ds _ => po z (.d (.list ds)), fun _ => False, fun _ => False⟩) : FnX P w K mg base (k + 1) (SpDP C ar po) f := by
  refine fx_DP (Ls := L__law_table) (G := G__law_table) F sc__law_table (by decide +kernel) (by decide +kernel) (by decide +kernel) 4 rfl har (fun _ _ _ _ _ _ us hl => match us, hl with | [_], _ => by kernel_rfl) ?_
  with_reducible exact body
abbrev N__law_dual : List Str := ["_law_talk_here", "_law_rows", "_law_row_here"]
abbrev L__law_dual : List Str := ["_law_talk_here", "_law_rows"]
abbrev G__law_dual : List Str := ["tuple"]
theorem sc__law_dual : FnScope N__law_dual ["_law_talk_here"] (defScope s__law_dual) := ⟨rfl, rfl, rfl, by decide +kernel, rfl, by decide +kernel, by decide +kernel⟩
theorem st__law_dual {α : Type} {ar : α → List W} {po : α → W → Prop} (F : FunD K "_law_dual" "_law_dual" (defArgs s__law_dual) (defBody s__law_dual) (defScope s__law_dual) [] [] f fd) (har : ∀ z, (ar z).length = 1)
    (body : ∀ c, CIs c P w K mg base k N__law_dual L__law_dual G__law_dual C none (defScope s__law_dual) → ∀ z, DSs c (envO (ar z) 2) (defBody s__law_dual) ⟨fun _ => po z (.d .none), fun r _ => po z r, fun ds _ => po z (.d (.list ds)), fun _ => False, fun _ => False⟩) : FnX P w K mg base (k + 1) (SpD C ar po) f := by
  refine fx_D (Ls := L__law_dual) (G := G__law_dual) F sc__law_dual (by decide +kernel) (by decide +kernel) (by decide +kernel) 2 rfl har (fun _ _ _ _ _ _ us hl => match us, hl with | [_], _ => by kernel_rfl) ?_
  with_reducible exact body
abbrev N__law_head : List Str := ["_law_table_here", "_law_talk_here"]
abbrev L__law_head : List Str := ["_law_table_here", "_law_talk_here"]
abbrev G__law_head : List Str := ["_law_dual", "_law_head"]
theorem sc__law_head : FnScope N__law_head ["_law_table_here", "_law_talk_here"] (defScope s__law_head) := ⟨rfl, rfl, rfl, by decide +kernel, rfl, by decide +kernel, by decide +kernel⟩
theorem st__law_head {α : Type} {ar : α → List W} {po : α → W → Prop} (F : FunD K "_law_head" "_law_head" (defArgs s__law_head) (defBody s__law_head) (defScope s__law_head) [] [] f fd) (har : ∀ z, (ar z).length = 2)
    (body : ∀ c, CIs c P w K mg base k N__law_head L__law_head G__law_head C none (defScope s__law_head) → ∀ z, DSs c (envO (ar z) 0) (defBody s__law_head) ⟨fun _ => po z (.d .none), fun r _ => po z r, fun ds _ => po z (.d (.list ds)), fun _ => False, fun _ => False⟩) : FnX P w K mg base (k + 1) (SpD C ar po) f := by
  refine fx_D (Ls := L__law_head) (G := G__law_head) F sc__law_head (by decide +kernel) (by decide +kernel) (by decide +kernel) 0 rfl har (fun _ _ _ _ _ _ us hl => match us, hl with | [_, _], _ => by kernel_rfl) ?_
  with_reducible exact body
abbrev N__law_row : List Str := ["_law_talk_here", "_law_label_here", "_law_row_here"]
abbrev L__law_row : List Str := ["_law_talk_here", "_law_label_here", "_law_row_here"]
abbrev G__law_row : List Str := []
theorem sc__law_row : FnScope N__law_row ["_law_talk_here", "_law_label_here"] (defScope s__law_row) := ⟨rfl, rfl, rfl, by decide +kernel, rfl, by decide +kernel, by decide +kernel⟩
theorem st__law_row {α : Type} {ar : α → List W} {po : α → W → Prop} (F : FunD K "_law_row" "_law_row" (defArgs s__law_row) (defBody s__law_row) (defScope s__law_row) [] [] f fd) (har : ∀ z, (ar z).length = 2)
    (body : ∀ c, CIs c P w K mg base k N__law_row L__law_row G__law_row C none (defScope s__law_row) → ∀ z, DSs c (envO (ar z) 1) (defBody s__law_row) ⟨fun _ => po z (.d .none), fun r _ => po z r, fun ds _ => po z (.d (.list ds)), fun _ => False, fun _ => False⟩) : FnX P w K mg base (k + 1) (SpD C ar po) f := by
  refine fx_D (Ls := L__law_row) (G := G__law_row) F sc__law_row (by decide +kernel) (by decide +kernel) (by decide +kernel) 1 rfl har (fun _ _ _ _ _ _ us hl => match us, hl with | [_, _], _ => by kernel_rfl) ?_
  with_reducible exact body
abbrev N__law_kinds : List Str := ["_law_one", "_law_two", "_law_label_here", "_law_kinds_here"]
abbrev L__law_kinds : List Str := ["_law_one", "_law_two", "_law_label_here", "_law_kinds_here"]
abbrev G__law_kinds : List Str := ["_law_row"]
theorem sc__law_kinds : FnScope N__law_kinds ["_law_one", "_law_two", "_law_label_here"] (defScope s__law_kinds) := ⟨rfl, rfl, rfl, by decide +kernel, rfl, by decide +kernel, by decide +kernel⟩
theorem st__law_kinds {α : Type} {ar : α → List W} {po : α → List PD → Prop} (F : FunD K "_law_kinds" "_law_kinds" (defArgs s__law_kinds) (defBody s__law_kinds) (defScope s__law_kinds) [] [] f fd) (har : ∀ z, (ar z).length = 3)
    (body : ∀ c, CIs c P w K mg base k N__law_kinds L__law_kinds G__law_kinds C none (defScope s__law_kinds) → ∀ z, DSs c (envO (ar z) 1) (defBody s__law_kinds) ⟨fun _ => False, fun _ _ => False, fun ds _ => po z ds, fun _ => False, fun _ => False⟩) : FnX P w K mg base (k + 1) (SpF C ar po) f := by
  refine fx_F (Ls := L__law_kinds) (G := G__law_kinds) F sc__law_kinds (by decide +kernel) (by decide +kernel) (by decide +kernel) 1 rfl har (fun _ _ _ _ _ _ us hl => match us, hl with | [_, _, _], _ => by kernel_rfl) ?_
  with_reducible exact body
abbrev N__law_asked : List Str := ["_law_one", "_law_two", "_law_row_here"]
abbrev L__law_asked : List Str := ["_law_one", "_law_two"]
abbrev G__law_asked : List Str := []
theorem sc__law_asked : FnScope N__law_asked ["_law_one", "_law_two"] (defScope s__law_asked) := ⟨rfl, rfl, rfl, by decide +kernel, rfl, by decide +kernel, by decide +kernel⟩
theorem st__law_asked {α : Type} {ar : α → List W} {po : α → List PD → Prop} (F : FunD K "_law_asked" "_law_asked" (defArgs s__law_asked) (defBody s__law_asked) (defScope s__law_asked) [] [] f fd) (har : ∀ z, (ar z).length = 2)
    (body : ∀ c, CIs c P w K mg base k N__law_asked L__law_asked G__law_asked C none (defScope s__law_asked) → ∀ z, DSs c (envO (ar z) 1) (defBody s__law_asked) ⟨fun _ => False, fun _ _ => False, fun ds _ => po z ds, fun _ => False, fun _ => False⟩) : FnX P w K mg base (k + 1) (SpF C ar po) f := by
  refine fx_F (Ls := L__law_asked) (G := G__law_asked) F sc__law_asked (by decide +kernel) (by decide +kernel) (by decide +kernel) 1 rfl har (fun _ _ _ _ _ _ us hl => match us, hl with | [_, _], _ => by kernel_rfl) ?_
  with_reducible exact body
abbrev N__law_fails : List Str := ["_law_one", "_law_two", "_law_label_here", "_law_kinds_here", "_law_ends"]
abbrev L__law_fails : List Str := ["_law_one", "_law_two", "_law_label_here", "_law_kinds_here", "_law_ends"]
abbrev G__law_fails : List Str := ["_law_asked", "_law_kinds", "_law_row", "isinstance", "tuple"]
theorem sc__law_fails : FnScope N__law_fails ["_law_one", "_law_two"] (defScope s__law_fails) := ⟨rfl, rfl, rfl, by decide +kernel, rfl, by decide +kernel, by decide +kernel⟩
theorem st__law_fails {α : Type} {ar : α → List W} {po : α → W → Prop} (F : FunD K "_law_fails" "_law_fails" (defArgs s__law_fails) (defBody s__law_fails) (defScope s__law_fails) [] [] f fd) (har : ∀ z, (ar z).length = 2)
    (body : ∀ c, CIs c P w K mg base k N__law_fails L__law_fails G__law_fails C none (defScope s__law_fails) → ∀ z, DSs c (envO (ar z) 3) (defBody s__law_fails) ⟨fun _ => po z (.d .none), fun r _ => po z r, fun ds _ => po z (.d (.list ds)), fun _ => False, fun _ => False⟩) : FnX P w K mg base (k + 1) (SpD C ar po) f := by
  refine fx_D (Ls := L__law_fails) (G := G__law_fails) F sc__law_fails (by decide +kernel) (by decide +kernel) (by decide +kernel) 3 rfl har (fun _ _ _ _ _ _ us hl => match us, hl with | [_, _], _ => by kernel_rfl) ?_
  with_reducible exact body
abbrev N__law_after : List Str := ["_law_table_here", "_law_one", "_law_two", "_law_pairs_here", "_law_label_here", "_law_kinds_here"]
abbrev L__law_after : List Str := ["_law_table_here", "_law_one", "_law_two", "_law_pairs_here", "_law_label_here", "_law_kinds_here"]
abbrev G__law_after : List Str := ["_law_asked", "_law_fails", "_law_head", "_law_kinds", "_law_row", "isinstance", "tuple"]
theorem sc__law_after : FnScope N__law_after ["_law_table_here", "_law_one", "_law_two"] (defScope s__law_after) := ⟨rfl, rfl, rfl, by decide +kernel, rfl, by decide +kernel, by decide +kernel⟩
theorem st__law_after {α : Type} {ar : α → List W} {po : α → List PD → Prop} (F : FunD K "_law_after" "_law_after" (defArgs s__law_after) (defBody s__law_after) (defScope s__law_after) [] [] f fd) (har : ∀ z, (ar z).length = 3)
    (body : ∀ c, CIs c P w K mg base k N__law_after L__law_after G__law_after C none (defScope s__law_after) → ∀ z, DSs c (envO (ar z) 3) (defBody s__law_after) ⟨fun _ => False, fun _ _ => False, fun ds _ => po z ds, fun _ => False, fun _ => False⟩) : FnX P w K mg base (k + 1) (SpF C ar po) f := by
  refine fx_F (Ls := L__law_after) (G := G__law_after) F sc__law_after (by decide +kernel) (by decide +kernel) (by decide +kernel) 3 rfl har (fun _ _ _ _ _ _ us hl => match us, hl with | [_, _, _], _ => by kernel_rfl) ?_
  with_reducible exact body
abbrev N__law_pairs : List Str := ["_law_table_here", "_law_one", "_law_two", "_law_pairs_here", "_law_at", "_law_pair"]
abbrev L__law_pairs : List Str := ["_law_table_here", "_law_one", "_law_two", "_law_pairs_here", "_law_at", "_law_pair"]
abbrev G__law_pairs : List Str := ["_law_after", "_law_head", "len"]
theorem sc__law_pairs : FnScope N__law_pairs ["_law_table_here", "_law_one", "_law_two"] (defScope s__law_pairs) := ⟨rfl, rfl, rfl, by decide +kernel, rfl, by decide +kernel, by decide +kernel⟩
theorem st__law_pairs {α : Type} {ar : α → List W} {po : α → List PD → Prop} (F : FunD K "_law_pairs" "_law_pairs" (defArgs s__law_pairs) (defBody s__law_pairs) (defScope s__law_pairs) [] [] f fd) (har : ∀ z, (ar z).length = 3)
    (body : ∀ c, CIs c P w K mg base k N__law_pairs L__law_pairs G__law_pairs C none (defScope s__law_pairs) → ∀ z, DSs c (envO (ar z) 3) (defBody s__law_pairs) ⟨fun _ => False, fun _ _ => False, fun ds _ => po z ds, fun _ => False, fun _ => False⟩) : FnX P w K mg base (k + 1) (SpF C ar po) f := by
  refine fx_F (Ls := L__law_pairs) (G := G__law_pairs) F sc__law_pairs (by decide +kernel) (by decide +kernel) (by decide +kernel) 3 rfl har (fun _ _ _ _ _ _ us hl => match us, hl with | [_, _, _], _ => by kernel_rfl) ?_
  with_reducible exact body
abbrev N__law_is_subtalk : List Str := ["_law_table_here", "_law_one", "_law_two", "_law_pair"]
abbrev L__law_is_subtalk : List Str := ["_law_table_here", "_law_one", "_law_two", "_law_pair"]
abbrev G__law_is_subtalk : List Str := ["_law_fails", "_law_pairs"]
theorem sc__law_is_subtalk : FnScope N__law_is_subtalk ["_law_table_here", "_law_one", "_law_two"] (defScope s__law_is_subtalk) := ⟨rfl, rfl, rfl, by decide +kernel, rfl, by decide +kernel, by decide +kernel⟩
theorem st__law_is_subtalk {α : Type} {ar : α → List W} {po : α → W → Prop} (F : FunD K "_law_is_subtalk" "_law_is_subtalk" (defArgs s__law_is_subtalk) (defBody s__law_is_subtalk) (defScope s__law_is_subtalk) [] [] f fd) (har : ∀ z, (ar z).length = 3)
    (body : ∀ c, CIs c P w K mg base k N__law_is_subtalk L__law_is_subtalk G__law_is_subtalk C none (defScope s__law_is_subtalk) → ∀ z, DSs c (envO (ar z) 1) (defBody s__law_is_subtalk) ⟨fun _ => po z (.d .none), fun r _ => po z r, fun ds _ => po z (.d (.list ds)), fun _ => False, fun _ => False⟩) : FnX P w K mg base (k + 1) (SpD C ar po) f := by
  refine fx_D (Ls := L__law_is_subtalk) (G := G__law_is_subtalk) F sc__law_is_subtalk (by decide +kernel) (by decide +kernel) (by decide +kernel) 1 rfl har (fun _ _ _ _ _ _ us hl => match us, hl with | [_, _, _], _ => by kernel_rfl) ?_
  with_reducible exact body
abbrev N__law_blank : List Str := []
abbrev L__law_blank : List Str := []
abbrev G__law_blank : List Str := []
theorem sc__law_blank : FnScope N__law_blank [] (defScope s__law_blank) := ⟨rfl, rfl, rfl, by decide +kernel, rfl, by decide +kernel, by decide +kernel⟩
abbrev N__law_whole : List Str := ["_law_value"]
abbrev L__law_whole : List Str := ["_law_value"]
abbrev G__law_whole : List Str := ["bool", "int", "isinstance"]
theorem sc__law_whole : FnScope N__law_whole ["_law_value"] (defScope s__law_whole) := ⟨rfl, rfl, rfl, by decide +kernel, rfl, by decide +kernel, by decide +kernel⟩
theorem st__law_whole {α : Type} {ar : α → List W} {po : α → W → Prop} (F : FunD K "_law_whole" "_law_whole" (defArgs s__law_whole) (defBody s__law_whole) (defScope s__law_whole) [] [] f fd) (har : ∀ z, (ar z).length = 1)
    (body : ∀ c, CIs c P w K mg base k N__law_whole L__law_whole G__law_whole C none (defScope s__law_whole) → ∀ z, DSs c (envO (ar z) 0) (defBody s__law_whole) ⟨fun _ => po z (.d .none), fun r _ => po z r, fun ds _ => po z (.d (.list ds)), fun _ => False, fun _ => False⟩) : FnX P w K mg base (k + 1) (SpD C ar po) f := by
  refine fx_D (Ls := L__law_whole) (G := G__law_whole) F sc__law_whole (by decide +kernel) (by decide +kernel) (by decide +kernel) 0 rfl har (fun _ _ _ _ _ _ us hl => match us, hl with | [_], _ => by kernel_rfl) ?_
  with_reducible exact body
abbrev N__law_end : List Str := ["_law_value"]
abbrev L__law_end : List Str := ["_law_value"]
abbrev G__law_end : List Str := ["_law_whole", "isinstance", "len", "tuple"]
theorem sc__law_end : FnScope N__law_end ["_law_value"] (defScope s__law_end) := ⟨rfl, rfl, rfl, by decide +kernel, rfl, by decide +kernel, by decide +kernel⟩
theorem st__law_end {α : Type} {ar : α → List W} {po : α → W → Prop} (F : FunD K "_law_end" "_law_end" (defArgs s__law_end) (defBody s__law_end) (defScope s__law_end) [] [] f fd) (har : ∀ z, (ar z).length = 1)
    (body : ∀ c, CIs c P w K mg base k N__law_end L__law_end G__law_end C none (defScope s__law_end) → ∀ z, DSs c (envO (ar z) 0) (defBody s__law_end) ⟨fun _ => po z (.d .none), fun r _ => po z r, fun ds _ => po z (.d (.list ds)), fun _ => False, fun _ => False⟩) : FnX P w K mg base (k + 1) (SpD C ar po) f := by
  refine fx_D (Ls := L__law_end) (G := G__law_end) F sc__law_end (by decide +kernel) (by decide +kernel) (by decide +kernel) 0 rfl har (fun _ _ _ _ _ _ us hl => match us, hl with | [_], _ => by kernel_rfl) ?_
  with_reducible exact body
abbrev N__law_running : List Str := ["_law_state", "_law_actor"]
abbrev L__law_running : List Str := ["_law_state", "_law_actor"]
abbrev G__law_running : List Str := ["_law_whole", "len"]
theorem sc__law_running : FnScope N__law_running ["_law_state", "_law_actor"] (defScope s__law_running) := ⟨rfl, rfl, rfl, by decide +kernel, rfl, by decide +kernel, by decide +kernel⟩
theorem st__law_running {α : Type} {ar : α → List W} {po : α → W → Prop} (F : FunD K "_law_running" "_law_running" (defArgs s__law_running) (defBody s__law_running) (defScope s__law_running) [] [] f fd) (har : ∀ z, (ar z).length = 2)
    (body : ∀ c, CIs c P w K mg base k N__law_running L__law_running G__law_running C none (defScope s__law_running) → ∀ z, DSs c (envO (ar z) 0) (defBody s__law_running) ⟨fun _ => po z (.d .none), fun r _ => po z r, fun ds _ => po z (.d (.list ds)), fun _ => False, fun _ => False⟩) : FnX P w K mg base (k + 1) (SpD C ar po) f := by
  refine fx_D (Ls := L__law_running) (G := G__law_running) F sc__law_running (by decide +kernel) (by decide +kernel) (by decide +kernel) 0 rfl har (fun _ _ _ _ _ _ us hl => match us, hl with | [_, _], _ => by kernel_rfl) ?_
  with_reducible exact body
abbrev N__law_is_side : List Str := ["_law_state", "_law_event_here"]
abbrev L__law_is_side : List Str := ["_law_state", "_law_event_here"]
abbrev G__law_is_side : List Str := ["_law_whole"]
theorem sc__law_is_side : FnScope N__law_is_side ["_law_state", "_law_event_here"] (defScope s__law_is_side) := ⟨rfl, rfl, rfl, by decide +kernel, rfl, by decide +kernel, by decide +kernel⟩
theorem st__law_is_side {α : Type} {ar : α → List W} {po : α → W → Prop} (F : FunD K "_law_is_side" "_law_is_side" (defArgs s__law_is_side) (defBody s__law_is_side) (defScope s__law_is_side) [] [] f fd) (har : ∀ z, (ar z).length = 2)
    (body : ∀ c, CIs c P w K mg base k N__law_is_side L__law_is_side G__law_is_side C none (defScope s__law_is_side) → ∀ z, DSs c (envO (ar z) 0) (defBody s__law_is_side) ⟨fun _ => po z (.d .none), fun r _ => po z r, fun ds _ => po z (.d (.list ds)), fun _ => False, fun _ => False⟩) : FnX P w K mg base (k + 1) (SpD C ar po) f := by
  refine fx_D (Ls := L__law_is_side) (G := G__law_is_side) F sc__law_is_side (by decide +kernel) (by decide +kernel) (by decide +kernel) 0 rfl har (fun _ _ _ _ _ _ us hl => match us, hl with | [_, _], _ => by kernel_rfl) ?_
  with_reducible exact body
abbrev N__law_may_open : List Str := ["_law_table_here", "_law_state", "_law_event_here", "_law_kind_here"]
abbrev L__law_may_open : List Str := ["_law_table_here", "_law_state", "_law_event_here", "_law_kind_here"]
abbrev G__law_may_open : List Str := ["_law_running", "_law_whole", "isinstance", "len", "list", "tuple"]
theorem sc__law_may_open : FnScope N__law_may_open ["_law_table_here", "_law_state", "_law_event_here"] (defScope s__law_may_open) := ⟨rfl, rfl, rfl, by decide +kernel, rfl, by decide +kernel, by decide +kernel⟩
theorem st__law_may_open {α : Type} {ar : α → List W} {po : α → W → Prop} (F : FunD K "_law_may_open" "_law_may_open" (defArgs s__law_may_open) (defBody s__law_may_open) (defScope s__law_may_open) [] [] f fd) (har : ∀ z, (ar z).length = 3)
    (body : ∀ c, CIs c P w K mg base k N__law_may_open L__law_may_open G__law_may_open C none (defScope s__law_may_open) → ∀ z, DSs c (envO (ar z) 1) (defBody s__law_may_open) ⟨fun _ => po z (.d .none), fun r _ => po z r, fun ds _ => po z (.d (.list ds)), fun _ => False, fun _ => False⟩) : FnX P w K mg base (k + 1) (SpD C ar po) f := by
  refine fx_D (Ls := L__law_may_open) (G := G__law_may_open) F sc__law_may_open (by decide +kernel) (by decide +kernel) (by decide +kernel) 1 rfl har (fun _ _ _ _ _ _ us hl => match us, hl with | [_, _, _], _ => by kernel_rfl) ?_
  with_reducible exact body
abbrev N__law_may_say : List Str := ["_law_table_here", "_law_state", "_law_place", "_law_row_here", "_law_payload_here", "_law_given"]
abbrev L__law_may_say : List Str := ["_law_table_here", "_law_state", "_law_place", "_law_row_here", "_law_payload_here", "_law_given"]
abbrev G__law_may_say : List Str := ["_law_end", "_law_is_subtalk", "_law_whole", "bool", "isinstance"]
theorem sc__law_may_say : FnScope N__law_may_say ["_law_table_here", "_law_state", "_law_place", "_law_row_here", "_law_payload_here"] (defScope s__law_may_say) := ⟨rfl, rfl, rfl, by decide +kernel, rfl, by decide +kernel, by decide +kernel⟩
theorem st__law_may_say {α : Type} {ar : α → List W} {po : α → W → Prop} (F : FunD K "_law_may_say" "_law_may_say" (defArgs s__law_may_say) (defBody s__law_may_say) (defScope s__law_may_say) [] [] f fd) (har : ∀ z, (ar z).length = 5)
    (body : ∀ c, CIs c P w K mg base k N__law_may_say L__law_may_say G__law_may_say C none (defScope s__law_may_say) → ∀ z, DSs c (envO (ar z) 1) (defBody s__law_may_say) ⟨fun _ => po z (.d .none), fun r _ => po z r, fun ds _ => po z (.d (.list ds)), fun _ => False, fun _ => False⟩) : FnX P w K mg base (k + 1) (SpD C ar po) f := by
  refine fx_D (Ls := L__law_may_say) (G := G__law_may_say) F sc__law_may_say (by decide +kernel) (by decide +kernel) (by decide +kernel) 1 rfl har (fun _ _ _ _ _ _ us hl => match us, hl with | [_, _, _, _, _], _ => by kernel_rfl) ?_
  with_reducible exact body
abbrev N__law_like : List Str := ["_law_one", "_law_two"]
abbrev L__law_like : List Str := ["_law_one", "_law_two"]
abbrev G__law_like : List Str := ["_law_end", "bool", "isinstance"]
theorem sc__law_like : FnScope N__law_like ["_law_one", "_law_two"] (defScope s__law_like) := ⟨rfl, rfl, rfl, by decide +kernel, rfl, by decide +kernel, by decide +kernel⟩
theorem st__law_like {α : Type} {ar : α → List W} {po : α → W → Prop} (F : FunD K "_law_like" "_law_like" (defArgs s__law_like) (defBody s__law_like) (defScope s__law_like) [] [] f fd) (har : ∀ z, (ar z).length = 2)
    (body : ∀ c, CIs c P w K mg base k N__law_like L__law_like G__law_like C none (defScope s__law_like) → ∀ z, DSs c (envO (ar z) 0) (defBody s__law_like) ⟨fun _ => po z (.d .none), fun r _ => po z r, fun ds _ => po z (.d (.list ds)), fun _ => False, fun _ => False⟩) : FnX P w K mg base (k + 1) (SpD C ar po) f := by
  refine fx_D (Ls := L__law_like) (G := G__law_like) F sc__law_like (by decide +kernel) (by decide +kernel) (by decide +kernel) 0 rfl har (fun _ _ _ _ _ _ us hl => match us, hl with | [_, _], _ => by kernel_rfl) ?_
  with_reducible exact body
abbrev N__law_may_here : List Str := ["_law_table_here", "_law_state", "_law_event_here", "_law_place", "_law_name", "_law_talk_here", "_law_row_here", "_law_box"]
abbrev L__law_may_here : List Str := ["_law_table_here", "_law_state", "_law_event_here", "_law_place", "_law_name", "_law_talk_here", "_law_row_here", "_law_box"]
abbrev G__law_may_here : List Str := ["_law_head", "_law_like", "_law_may_say", "_law_row", "isinstance", "len", "str"]
theorem sc__law_may_here : FnScope N__law_may_here ["_law_table_here", "_law_state", "_law_event_here", "_law_place"] (defScope s__law_may_here) := ⟨rfl, rfl, rfl, by decide +kernel, rfl, by decide +kernel, by decide +kernel⟩
theorem st__law_may_here {α : Type} {ar : α → List W} {po : α → W → Prop} (F : FunD K "_law_may_here" "_law_may_here" (defArgs s__law_may_here) (defBody s__law_may_here) (defScope s__law_may_here) [] [] f fd) (har : ∀ z, (ar z).length = 4)
    (body : ∀ c, CIs c P w K mg base k N__law_may_here L__law_may_here G__law_may_here C none (defScope s__law_may_here) → ∀ z, DSs c (envO (ar z) 4) (defBody s__law_may_here) ⟨fun _ => po z (.d .none), fun r _ => po z r, fun ds _ => po z (.d (.list ds)), fun _ => False, fun _ => False⟩) : FnX P w K mg base (k + 1) (SpD C ar po) f := by
  refine fx_D (Ls := L__law_may_here) (G := G__law_may_here) F sc__law_may_here (by decide +kernel) (by decide +kernel) (by decide +kernel) 4 rfl har (fun _ _ _ _ _ _ us hl => match us, hl with | [_, _, _, _], _ => by kernel_rfl) ?_
  with_reducible exact body
abbrev N__law_may : List Str := ["_law_table_here", "_law_state", "_law_event_here", "_law_parts", "_law_place"]
abbrev L__law_may : List Str := ["_law_table_here", "_law_state", "_law_event_here", "_law_parts", "_law_place"]
abbrev G__law_may : List Str := ["_law_is_side", "_law_may_here", "_law_may_open", "_law_running", "isinstance", "len", "str", "tuple"]
theorem sc__law_may : FnScope N__law_may ["_law_table_here", "_law_state", "_law_event_here"] (defScope s__law_may) := ⟨rfl, rfl, rfl, by decide +kernel, rfl, by decide +kernel, by decide +kernel⟩
theorem st__law_may {α : Type} {ar : α → List W} {po : α → W → Prop} (F : FunD K "_law_may" "_law_may" (defArgs s__law_may) (defBody s__law_may) (defScope s__law_may) [] [] f fd) (har : ∀ z, (ar z).length = 3)
    (body : ∀ c, CIs c P w K mg base k N__law_may L__law_may G__law_may C none (defScope s__law_may) → ∀ z, DSs c (envO (ar z) 2) (defBody s__law_may) ⟨fun _ => po z (.d .none), fun r _ => po z r, fun ds _ => po z (.d (.list ds)), fun _ => False, fun _ => False⟩) : FnX P w K mg base (k + 1) (SpD C ar po) f := by
  refine fx_D (Ls := L__law_may) (G := G__law_may) F sc__law_may (by decide +kernel) (by decide +kernel) (by decide +kernel) 2 rfl har (fun _ _ _ _ _ _ us hl => match us, hl with | [_, _, _], _ => by kernel_rfl) ?_
  with_reducible exact body
abbrev N__law_leave : List Str := ["_law_state", "_law_place", "_law_mark", "_law_message_here"]
abbrev L__law_leave : List Str := ["_law_state", "_law_place", "_law_mark", "_law_message_here"]
abbrev G__law_leave : List Str := ["_law_end"]
theorem sc__law_leave : FnScope N__law_leave ["_law_state", "_law_place", "_law_mark"] (defScope s__law_leave) := ⟨rfl, rfl, rfl, by decide +kernel, rfl, by decide +kernel, by decide +kernel⟩
theorem st__law_leave {α : Type} {a1 a2 : α → List W} {sl : α → OKd × Co} {po : α → OKd → Co → Prop} (F : FunD K "_law_leave" "_law_leave" (defArgs s__law_leave) (defBody s__law_leave) (defScope s__law_leave) [] [] f fd) (har : ∀ z, (a1 z).length = 0 ∧ (a1 z).length + 1 + (a2 z).length = 3)
    (body : ∀ c, CIs c P w K mg base k N__law_leave L__law_leave G__law_leave C none (defScope s__law_leave) → ∀ z A, DSs c (envM (a1 z) (ow (sl z).1 A (sl z).2) (a2 z) 1) (defBody s__law_leave) ⟨endM 0 A.a (po z), fun r env => r = .d .none ∧ endM 0 A.a (po z) env, fun _ _ => False, fun _ => False, fun _ => False⟩) : FnX P w K mg base (k + 1) (SpM C a1 a2 sl po) f := by
  refine fx_M (Ls := L__law_leave) (G := G__law_leave) 0 F sc__law_leave (by decide +kernel) (by decide +kernel) (by decide +kernel) 1 rfl har (fun _ _ _ _ _ _ us hl => match us, hl with | [_, _, _], _ => by kernel_rfl) ?_
  with_reducible exact body
abbrev N__law_do : List Str := ["_law_table_here", "_law_state", "_law_event_here", "_law_name", "_law_place", "_law_side"]
abbrev L__law_do : List Str := ["_law_table_here", "_law_state", "_law_event_here", "_law_name", "_law_place", "_law_side"]
abbrev G__law_do : List Str := ["_law_dual", "_law_leave", "_law_message"]
theorem sc__law_do : FnScope N__law_do ["_law_table_here", "_law_state", "_law_event_here"] (defScope s__law_do) := ⟨rfl, rfl, rfl, by decide +kernel, rfl, by decide +kernel, by decide +kernel⟩
theorem st__law_do {α : Type} {a1 a2 : α → List W} {sl : α → OKd × Co} {po : α → OKd → Co → Prop} (F : FunD K "_law_do" "_law_do" (defArgs s__law_do) (defBody s__law_do) (defScope s__law_do) [] [] f fd) (har : ∀ z, (a1 z).length = 1 ∧ (a1 z).length + 1 + (a2 z).length = 3)
    (body : ∀ c, CIs c P w K mg base k N__law_do L__law_do G__law_do C none (defScope s__law_do) → ∀ z A, DSs c (envM (a1 z) (ow (sl z).1 A (sl z).2) (a2 z) 3) (defBody s__law_do) ⟨endM 1 A.a (po z), fun r env => r = .d .none ∧ endM 1 A.a (po z) env, fun _ _ => False, fun _ => False, fun _ => False⟩) : FnX P w K mg base (k + 1) (SpM C a1 a2 sl po) f := by
  refine fx_M (Ls := L__law_do) (G := G__law_do) 1 F sc__law_do (by decide +kernel) (by decide +kernel) (by decide +kernel) 3 rfl har (fun _ _ _ _ _ _ us hl => match us, hl with | [_, _, _], _ => by kernel_rfl) ?_
  with_reducible exact body
abbrev N__law_message : List Str := ["_law_table_here", "_law_state", "_law_event_here", "_law_place", "_law_row_here", "_law_given", "_law_partner", "_law_there"]
abbrev L__law_message : List Str := ["_law_table_here", "_law_state", "_law_event_here", "_law_place", "_law_row_here", "_law_given", "_law_partner", "_law_there"]
abbrev G__law_message : List Str := ["_law_end", "_law_head", "_law_row"]
theorem sc__law_message : FnScope N__law_message ["_law_table_here", "_law_state", "_law_event_here", "_law_place"] (defScope s__law_message) := ⟨rfl, rfl, rfl, by decide +kernel, rfl, by decide +kernel, by decide +kernel⟩
theorem st__law_message {α : Type} {a1 a2 : α → List W} {sl : α → OKd × Co} {po : α → OKd → Co → Prop} (F : FunD K "_law_message" "_law_message" (defArgs s__law_message) (defBody s__law_message) (defScope s__law_message) [] [] f fd) (har : ∀ z, (a1 z).length = 1 ∧ (a1 z).length + 1 + (a2 z).length = 4)
    (body : ∀ c, CIs c P w K mg base k N__law_message L__law_message G__law_message C none (defScope s__law_message) → ∀ z A, DSs c (envM (a1 z) (ow (sl z).1 A (sl z).2) (a2 z) 4) (defBody s__law_message) ⟨endM 1 A.a (po z), fun r env => r = .d .none ∧ endM 1 A.a (po z) env, fun _ _ => False, fun _ => False, fun _ => False⟩) : FnX P w K mg base (k + 1) (SpM C a1 a2 sl po) f := by
  refine fx_M (Ls := L__law_message) (G := G__law_message) 1 F sc__law_message (by decide +kernel) (by decide +kernel) (by decide +kernel) 4 rfl har (fun _ _ _ _ _ _ us hl => match us, hl with | [_, _, _, _], _ => by kernel_rfl) ?_
  with_reducible exact body
abbrev N__law_payload : List Str := ["_law_pool_here", "_law_table_here", "_law_state", "_law_kind_here", "_law_ends", "_law_k", "_law_end_here", "_law_place"]
abbrev L__law_payload : List Str := ["_law_pool_here", "_law_table_here", "_law_state", "_law_kind_here", "_law_ends", "_law_k", "_law_end_here"]
abbrev G__law_payload : List Str := ["_law_is_subtalk", "_law_take", "len", "range", "sorted"]
theorem sc__law_payload : FnScope N__law_payload ["_law_pool_here", "_law_table_here", "_law_state", "_law_kind_here"] (defScope s__law_payload) := ⟨rfl, rfl, rfl, by decide +kernel, rfl, by decide +kernel, by decide +kernel⟩
theorem st__law_payload {α : Type} {ar : α → List W} {po : α → W → Prop} (F : FunD K "_law_payload" "_law_payload" (defArgs s__law_payload) (defBody s__law_payload) (defScope s__law_payload) [] [] f fd) (har : ∀ z, (ar z).length + 1 = 4)
    (body : ∀ c pl, CIs c P w K mg base k N__law_payload L__law_payload G__law_payload C pl (defScope s__law_payload) → ∀ z, DSs c (some .pool :: envO (ar z) 4) (defBody s__law_payload) ⟨fun _ => po z (.d .none), fun r _ => po z r, fun ds _ => po z (.d (.list ds)), fun _ => False, fun _ => False⟩) : FnX P w K mg base (k + 1) (SpDP C ar po) f := by
  refine fx_DP (Ls := L__law_payload) (G := G__law_payload) F sc__law_payload (by decide +kernel) (by decide +kernel) (by decide +kernel) 4 rfl har (fun _ _ _ _ _ _ us hl => match us, hl with | [_, _, _, _], _ => by kernel_rfl) ?_
  with_reducible exact body
abbrev N__law_say : List Str := ["_law_pool_here", "_law_table_here", "_law_state", "_law_place", "_law_talk_here", "_law_row_here"]
abbrev L__law_say : List Str := ["_law_pool_here", "_law_table_here", "_law_state", "_law_place", "_law_talk_here", "_law_row_here"]
abbrev G__law_say : List Str := ["_law_head", "_law_payload", "_law_take", "len"]
theorem sc__law_say : FnScope N__law_say ["_law_pool_here", "_law_table_here", "_law_state", "_law_place"] (defScope s__law_say) := ⟨rfl, rfl, rfl, by decide +kernel, rfl, by decide +kernel, by decide +kernel⟩
theorem st__law_say {α : Type} {ar : α → List W} {po : α → W → Prop} (F : FunD K "_law_say" "_law_say" (defArgs s__law_say) (defBody s__law_say) (defScope s__law_say) [] [] f fd) (har : ∀ z, (ar z).length + 1 = 4)
    (body : ∀ c pl, CIs c P w K mg base k N__law_say L__law_say G__law_say C pl (defScope s__law_say) → ∀ z, DSs c (some .pool :: envO (ar z) 2) (defBody s__law_say) ⟨fun _ => po z (.d .none), fun r _ => po z r, fun ds _ => po z (.d (.list ds)), fun _ => False, fun _ => False⟩) : FnX P w K mg base (k + 1) (SpDP C ar po) f := by
  refine fx_DP (Ls := L__law_say) (G := G__law_say) F sc__law_say (by decide +kernel) (by decide +kernel) (by decide +kernel) 2 rfl har (fun _ _ _ _ _ _ us hl => match us, hl with | [_, _, _, _], _ => by kernel_rfl) ?_
  with_reducible exact body
abbrev N__law_moves : List Str := ["_law_table_here", "_law_state", "_law_moves_here", "_law_place", "_law_word", "_law_message_here"]
abbrev L__law_moves : List Str := ["_law_table_here", "_law_state", "_law_moves_here", "_law_place", "_law_word", "_law_message_here"]
abbrev G__law_moves : List Str := ["_law_head", "sorted"]
theorem sc__law_moves : FnScope N__law_moves ["_law_table_here", "_law_state"] (defScope s__law_moves) := ⟨rfl, rfl, rfl, by decide +kernel, rfl, by decide +kernel, by decide +kernel⟩
theorem st__law_moves {α : Type} {ar : α → List W} {po : α → List PD → Prop} (F : FunD K "_law_moves" "_law_moves" (defArgs s__law_moves) (defBody s__law_moves) (defScope s__law_moves) [] [] f fd) (har : ∀ z, (ar z).length = 2)
    (body : ∀ c, CIs c P w K mg base k N__law_moves L__law_moves G__law_moves C none (defScope s__law_moves) → ∀ z, DSs c (envO (ar z) 4) (defBody s__law_moves) ⟨fun _ => False, fun _ _ => False, fun ds _ => po z ds, fun _ => False, fun _ => False⟩) : FnX P w K mg base (k + 1) (SpF C ar po) f := by
  refine fx_F (Ls := L__law_moves) (G := G__law_moves) F sc__law_moves (by decide +kernel) (by decide +kernel) (by decide +kernel) 4 rfl har (fun _ _ _ _ _ _ us hl => match us, hl with | [_, _], _ => by kernel_rfl) ?_
  with_reducible exact body
abbrev N__law_event : List Str := ["_law_pool_here", "_law_table_here", "_law_state", "_law_actors", "_law_choice", "_law_places", "_law_moves_here", "_law_move", "_law_kind_here", "_law_place", "_law_actor"]
abbrev L__law_event : List Str := ["_law_pool_here", "_law_table_here", "_law_state", "_law_actors", "_law_choice", "_law_places", "_law_moves_here", "_law_move", "_law_kind_here", "_law_place"]
abbrev G__law_event : List Str := ["_law_moves", "_law_say", "_law_take", "int", "len", "list", "range", "sorted"]
theorem sc__law_event : FnScope N__law_event ["_law_pool_here", "_law_table_here", "_law_state"] (defScope s__law_event) := ⟨rfl, rfl, rfl, by decide +kernel, rfl, by decide +kernel, by decide +kernel⟩
theorem st__law_event {α : Type} {ar : α → List W} {po : α → W → Prop} (F : FunD K "_law_event" "_law_event" (defArgs s__law_event) (defBody s__law_event) (defScope s__law_event) [] [] f fd) (har : ∀ z, (ar z).length + 1 = 3)
    (body : ∀ c pl, CIs c P w K mg base k N__law_event L__law_event G__law_event C pl (defScope s__law_event) → ∀ z, DSs c (some .pool :: envO (ar z) 8) (defBody s__law_event) ⟨fun _ => po z (.d .none), fun r _ => po z r, fun ds _ => po z (.d (.list ds)), fun _ => False, fun _ => False⟩) : FnX P w K mg base (k + 1) (SpDP C ar po) f := by
  refine fx_DP (Ls := L__law_event) (G := G__law_event) F sc__law_event (by decide +kernel) (by decide +kernel) (by decide +kernel) 8 rfl har (fun _ _ _ _ _ _ us hl => match us, hl with | [_, _, _], _ => by kernel_rfl) ?_
  with_reducible exact body
abbrev N__law_other : List Str := ["_law_pool_here", "_law_event_here", "_law_values", "_law_choice", "_law_at", "_law_names_here"]
abbrev L__law_other : List Str := ["_law_pool_here", "_law_event_here", "_law_values", "_law_choice", "_law_at", "_law_names_here"]
abbrev G__law_other : List Str := ["_law_take", "len"]
theorem sc__law_other : FnScope N__law_other ["_law_pool_here", "_law_event_here"] (defScope s__law_other) := ⟨rfl, rfl, rfl, by decide +kernel, rfl, by decide +kernel, by decide +kernel⟩
theorem st__law_other {α : Type} {ar : α → List W} {po : α → W → Prop} (F : FunD K "_law_other" "_law_other" (defArgs s__law_other) (defBody s__law_other) (defScope s__law_other) [] [] f fd) (har : ∀ z, (ar z).length + 1 = 2)
    (body : ∀ c pl, CIs c P w K mg base k N__law_other L__law_other G__law_other C pl (defScope s__law_other) → ∀ z, DSs c (some .pool :: envO (ar z) 4) (defBody s__law_other) ⟨fun _ => po z (.d .none), fun r _ => po z r, fun ds _ => po z (.d (.list ds)), fun _ => False, fun _ => False⟩) : FnX P w K mg base (k + 1) (SpDP C ar po) f := by
  refine fx_DP (Ls := L__law_other) (G := G__law_other) F sc__law_other (by decide +kernel) (by decide +kernel) (by decide +kernel) 4 rfl har (fun _ _ _ _ _ _ us hl => match us, hl with | [_, _], _ => by kernel_rfl) ?_
  with_reducible exact body
abbrev N__law_path : List Str := ["_law_table_here", "_law_talk_here", "_law_steps", "_law_step", "_law_here", "_law_row_here"]
abbrev L__law_path : List Str := ["_law_table_here", "_law_talk_here", "_law_steps", "_law_step", "_law_here", "_law_row_here"]
abbrev G__law_path : List Str := ["_law_head", "_law_row"]
theorem sc__law_path : FnScope N__law_path ["_law_table_here", "_law_talk_here", "_law_steps"] (defScope s__law_path) := ⟨rfl, rfl, rfl, by decide +kernel, rfl, by decide +kernel, by decide +kernel⟩
theorem st__law_path {α : Type} {ar : α → List W} {po : α → W → Prop} (F : FunD K "_law_path" "_law_path" (defArgs s__law_path) (defBody s__law_path) (defScope s__law_path) [] [] f fd) (har : ∀ z, (ar z).length = 3)
    (body : ∀ c, CIs c P w K mg base k N__law_path L__law_path G__law_path C none (defScope s__law_path) → ∀ z, DSs c (envO (ar z) 3) (defBody s__law_path) ⟨fun _ => po z (.d .none), fun r _ => po z r, fun ds _ => po z (.d (.list ds)), fun _ => False, fun _ => False⟩) : FnX P w K mg base (k + 1) (SpD C ar po) f := by
  refine fx_D (Ls := L__law_path) (G := G__law_path) F sc__law_path (by decide +kernel) (by decide +kernel) (by decide +kernel) 3 rfl har (fun _ _ _ _ _ _ us hl => match us, hl with | [_, _, _], _ => by kernel_rfl) ?_
  with_reducible exact body
abbrev N__law_side_right : List Str := ["_law_table_here", "_law_events", "_law_kind_here", "_law_side", "_law_steps", "_law_said", "_law_heard", "_law_left", "_law_fallen", "_law_event_here", "_law_talk_here"]
abbrev L__law_side_right : List Str := ["_law_table_here", "_law_events", "_law_kind_here", "_law_side", "_law_steps", "_law_said", "_law_heard", "_law_left", "_law_fallen", "_law_event_here", "_law_talk_here"]
abbrev G__law_side_right : List Str := ["_law_dual", "_law_path", "len"]
theorem sc__law_side_right : FnScope N__law_side_right ["_law_table_here", "_law_events", "_law_kind_here", "_law_side"] (defScope s__law_side_right) := ⟨rfl, rfl, rfl, by decide +kernel, rfl, by decide +kernel, by decide +kernel⟩
theorem st__law_side_right {α : Type} {ar : α → List W} {po : α → W → Prop} (F : FunD K "_law_side_right" "_law_side_right" (defArgs s__law_side_right) (defBody s__law_side_right) (defScope s__law_side_right) [] [] f fd) (har : ∀ z, (ar z).length = 4)
    (body : ∀ c, CIs c P w K mg base k N__law_side_right L__law_side_right G__law_side_right C none (defScope s__law_side_right) → ∀ z, DSs c (envO (ar z) 7) (defBody s__law_side_right) ⟨fun _ => po z (.d .none), fun r _ => po z r, fun ds _ => po z (.d (.list ds)), fun _ => False, fun _ => False⟩) : FnX P w K mg base (k + 1) (SpD C ar po) f := by
  refine fx_D (Ls := L__law_side_right) (G := G__law_side_right) F sc__law_side_right (by decide +kernel) (by decide +kernel) (by decide +kernel) 7 rfl har (fun _ _ _ _ _ _ us hl => match us, hl with | [_, _, _, _], _ => by kernel_rfl) ?_
  with_reducible exact body
abbrev N__law_about : List Str := ["_law_event_here", "_law_conversation"]
abbrev L__law_about : List Str := ["_law_event_here", "_law_conversation"]
abbrev G__law_about : List Str := []
theorem sc__law_about : FnScope N__law_about ["_law_event_here", "_law_conversation"] (defScope s__law_about) := ⟨rfl, rfl, rfl, by decide +kernel, rfl, by decide +kernel, by decide +kernel⟩
theorem st__law_about {α : Type} {ar : α → List W} {po : α → W → Prop} (F : FunD K "_law_about" "_law_about" (defArgs s__law_about) (defBody s__law_about) (defScope s__law_about) [] [] f fd) (har : ∀ z, (ar z).length = 2)
    (body : ∀ c, CIs c P w K mg base k N__law_about L__law_about G__law_about C none (defScope s__law_about) → ∀ z, DSs c (envO (ar z) 0) (defBody s__law_about) ⟨fun _ => po z (.d .none), fun r _ => po z r, fun ds _ => po z (.d (.list ds)), fun _ => False, fun _ => False⟩) : FnX P w K mg base (k + 1) (SpD C ar po) f := by
  refine fx_D (Ls := L__law_about) (G := G__law_about) F sc__law_about (by decide +kernel) (by decide +kernel) (by decide +kernel) 0 rfl har (fun _ _ _ _ _ _ us hl => match us, hl with | [_, _], _ => by kernel_rfl) ?_
  with_reducible exact body
abbrev N__law_all_right : List Str := ["_law_table_here", "_law_trace", "_law_opened", "_law_conversation", "_law_events", "_law_side", "_law_event_here"]
abbrev L__law_all_right : List Str := ["_law_table_here", "_law_trace", "_law_opened", "_law_conversation", "_law_events", "_law_side"]
abbrev G__law_all_right : List Str := ["_law_side_right", "len", "range"]
theorem sc__law_all_right : FnScope N__law_all_right ["_law_table_here", "_law_trace"] (defScope s__law_all_right) := ⟨rfl, rfl, rfl, by decide +kernel, rfl, by decide +kernel, by decide +kernel⟩
theorem st__law_all_right {α : Type} {ar : α → List W} {po : α → W → Prop} (F : FunD K "_law_all_right" "_law_all_right" (defArgs s__law_all_right) (defBody s__law_all_right) (defScope s__law_all_right) [] [] f fd) (har : ∀ z, (ar z).length = 2)
    (body : ∀ c, CIs c P w K mg base k N__law_all_right L__law_all_right G__law_all_right C none (defScope s__law_all_right) → ∀ z, DSs c (envO (ar z) 5) (defBody s__law_all_right) ⟨fun _ => po z (.d .none), fun r _ => po z r, fun ds _ => po z (.d (.list ds)), fun _ => False, fun _ => False⟩) : FnX P w K mg base (k + 1) (SpD C ar po) f := by
  refine fx_D (Ls := L__law_all_right) (G := G__law_all_right) F sc__law_all_right (by decide +kernel) (by decide +kernel) (by decide +kernel) 5 rfl har (fun _ _ _ _ _ _ us hl => match us, hl with | [_, _], _ => by kernel_rfl) ?_
  with_reducible exact body
abbrev N_law : List Str := ["_law_script", "_law_pool_here", "_law_table_here", "_law_state", "_law_trace", "_law_k", "_law_event_here", "_law_at", "_law_choice"]
abbrev L_law : List Str := ["_law_script", "_law_pool_here", "_law_table_here", "_law_state", "_law_trace", "_law_k", "_law_event_here", "_law_at", "_law_choice"]
abbrev G_law : List Str := ["_law_all_right", "_law_blank", "_law_do", "_law_event", "_law_may", "_law_other", "_law_pool", "_law_table", "_law_take", "dict", "judge", "len", "list", "range", "reversed"]
theorem sc_law : FnScope N_law ["_law_script"] (defScope s_law) := ⟨rfl, rfl, rfl, by decide +kernel, rfl, by decide +kernel, by decide +kernel⟩
theorem st_law {α : Type} {ar : α → List W} {po : α → W → Prop} (F : FunD K "law" "law" (defArgs s_law) (defBody s_law) (defScope s_law) [] [] f fd) (har : ∀ z, (ar z).length = 1)
    (body : ∀ c, CIs c P w K mg base k N_law L_law G_law C none (defScope s_law) → ∀ z, DSs c (envO (ar z) 8) (defBody s_law) ⟨fun _ => po z (.d .none), fun r _ => po z r, fun ds _ => po z (.d (.list ds)), fun _ => False, fun _ => False⟩) : FnX P w K mg base (k + 1) (SpD C ar po) f := by
  refine fx_D (Ls := L_law) (G := G_law) F sc_law (by decide +kernel) (by decide +kernel) (by decide +kernel) 8 rfl har (fun _ _ _ _ _ _ us hl => match us, hl with | [_], _ => by kernel_rfl) ?_
  with_reducible exact body
end
def GD (K : PySem.W.Frag) (mg : Str → Option Value) (x : Str) (st : Stmt) : Prop := ∃ f fd, FunD K x x (defArgs st) (defBody st) (defScope st) [] [] f fd ∧ mg x = some (.ref f)
def MD (K : PySem.W.Frag) (C : Addr) (m q : Str) (st : Stmt) : Prop := ∃ f fd, FunD K m q (defArgs st) (defBody st) (defScope st) [] [] f fd ∧ Meth K C m f
def ID (K : PySem.W.Frag) (mg : Str → Option Value) (C : Addr) (st : Stmt) : Prop := ∃ f fd, FunD K "__init__" "Ledger.__init__" (defArgs st) (defBody st) (defScope st) [] [] f fd ∧ L2.Mk K C f ∧ mg "Ledger" = some (.ref C)
/-- all that the head says -/
structure Fs (w : World) (K : PySem.W.Frag) (mg : Str → Option Value) (C : Addr) : Prop where
  bi : BiOk mg
  ld : LdOk K C
  pk : PkOk K w mg
  most : ∃ u, mg "MOST" = some u ∧ RelV (.int 65535) u
  init : ID K mg C s_Ledger___init__
  d_is_reference : GD K mg "is_reference" s_is_reference
  d_dual_kind : GD K mg "dual_kind" s_dual_kind
  d_dual : GD K mg "dual" s_dual
  d_head : GD K mg "head" s_head
  d_row_of : GD K mg "row_of" s_row_of
  d_is_talk_kind : GD K mg "is_talk_kind" s_is_talk_kind
  d_asked_rows : GD K mg "asked_rows" s_asked_rows
  d_payload_pair : GD K mg "payload_pair" s_payload_pair
  d_reason_at : GD K mg "reason_at" s_reason_at
  d_wrong_path : GD K mg "wrong_path" s_wrong_path
  d_is_subtalk : GD K mg "is_subtalk" s_is_subtalk
  d_is_whole : GD K mg "is_whole" s_is_whole
  d_is_end : GD K mg "is_end" s_is_end
  d_is_kind : GD K mg "is_kind" s_is_kind
  d_judge : GD K mg "judge" s_judge
  d__law_wide : GD K mg "_law_wide" s__law_wide
  d__law_dual : GD K mg "_law_dual" s__law_dual
  d__law_head : GD K mg "_law_head" s__law_head
  d__law_row : GD K mg "_law_row" s__law_row
  d__law_fails : GD K mg "_law_fails" s__law_fails
  d__law_is_subtalk : GD K mg "_law_is_subtalk" s__law_is_subtalk
  d__law_whole : GD K mg "_law_whole" s__law_whole
  d__law_end : GD K mg "_law_end" s__law_end
  d__law_running : GD K mg "_law_running" s__law_running
  d__law_is_side : GD K mg "_law_is_side" s__law_is_side
  d__law_may_open : GD K mg "_law_may_open" s__law_may_open
  d__law_may_say : GD K mg "_law_may_say" s__law_may_say
  d__law_like : GD K mg "_law_like" s__law_like
  d__law_may_here : GD K mg "_law_may_here" s__law_may_here
  d__law_may : GD K mg "_law_may" s__law_may
  d__law_path : GD K mg "_law_path" s__law_path
  d__law_side_right : GD K mg "_law_side_right" s__law_side_right
  d__law_about : GD K mg "_law_about" s__law_about
  d__law_all_right : GD K mg "_law_all_right" s__law_all_right
  m_allows : MD K C "allows" "Ledger.allows" s_Ledger_allows
  m__is_running : MD K C "_is_running" "Ledger._is_running" s_Ledger__is_running
  m__allows_open : MD K C "_allows_open" "Ledger._allows_open" s_Ledger__allows_open
  m__allows_at : MD K C "_allows_at" "Ledger._allows_at" s_Ledger__allows_at
  m__is_payload : MD K C "_is_payload" "Ledger._is_payload" s_Ledger__is_payload
  m__is_oldest : MD K C "_is_oldest" "Ledger._is_oldest" s_Ledger__is_oldest
  d_reached_pairs : GD K mg "reached_pairs" s_reached_pairs
  d_ends_of : GD K mg "ends_of" s_ends_of
  d__law_kinds : GD K mg "_law_kinds" s__law_kinds
  d__law_asked : GD K mg "_law_asked" s__law_asked
  d__law_after : GD K mg "_law_after" s__law_after
  d__law_pairs : GD K mg "_law_pairs" s__law_pairs
  d__law_moves : GD K mg "_law_moves" s__law_moves
  m_owed : MD K C "owed" "Ledger.owed" s_Ledger_owed
  d__law_kind : GD K mg "_law_kind" s__law_kind
  d__law_label : GD K mg "_law_label" s__law_label
  d__law_talk : GD K mg "_law_talk" s__law_talk
  d__law_table : GD K mg "_law_table" s__law_table
  d__law_payload : GD K mg "_law_payload" s__law_payload
  d__law_say : GD K mg "_law_say" s__law_say
  d__law_event : GD K mg "_law_event" s__law_event
  d__law_other : GD K mg "_law_other" s__law_other
  d__law_names : GD K mg "_law_names" s__law_names
  m_enter : MD K C "enter" "Ledger.enter" s_Ledger_enter
  m__enter_open : MD K C "_enter_open" "Ledger._enter_open" s_Ledger__enter_open
  m__enter_at : MD K C "_enter_at" "Ledger._enter_at" s_Ledger__enter_at
  m__say : MD K C "_say" "Ledger._say" s_Ledger__say
  m__hear : MD K C "_hear" "Ledger._hear" s_Ledger__hear
  m__leave : MD K C "_leave" "Ledger._leave" s_Ledger__leave
  d__law_leave : GD K mg "_law_leave" s__law_leave
  d__law_do : GD K mg "_law_do" s__law_do
  d__law_message : GD K mg "_law_message" s__law_message
  d__law_take : GD K mg "_law_take" s__law_take
  d__law_pool : GD K mg "_law_pool" s__law_pool
  d__law_blank : GD K mg "_law_blank" s__law_blank
/-! ## Mirrors: talks -/
def Talk.isRef : Talk → Bool
  | .ref _ _ => true
  | _ => false
mutual
def Talk.dual : Talk → Talk
  | .fin => .fin
  | .ref b n => .ref (!b) n
  | .act s rs => .act (!s) rs.dual
def Rows.dual : Rows → Rows
  | .nil => .nil
  | .cons l k t rs => .cons l k t.dual rs.dual
end
mutual
def Talk.dep : Talk → Nat
  | .act _ rs => rs.dep + 1
  | _ => 0
def Rows.dep : Rows → Nat
  | .nil => 0
  | .cons _ _ t rs => max t.dep rs.dep
end
mutual
def Talk.size : Talk → Nat
  | .act _ rs => rs.size + 1
  | _ => 1
def Rows.size : Rows → Nat
  | .nil => 0
  | .cons _ _ t rs => t.size + rs.size + 1
end
theorem Rows.len_le : ∀ rs : Rows, rs.D.length ≤ rs.size
  | .nil => Nat.le_refl 0
  | .cons l k t rs => by
    have := Rows.len_le rs
    simp only [Rows.D, Rows.size, List.length_cons]
    omega
mutual
theorem Talk.dual_dual : ∀ t : Talk, t.dual.dual = t
  | .fin => rfl
  | .ref b n => by simp [Talk.dual]
  | .act s rs => by simp [Talk.dual, Rows.dual_dual rs]
theorem Rows.dual_dual : ∀ rs : Rows, rs.dual.dual = rs
  | .nil => rfl
  | .cons l k t rs => by simp [Rows.dual, Talk.dual_dual t, Rows.dual_dual rs]
end
mutual
theorem Talk.dual_size : ∀ t : Talk, t.dual.size = t.size
  | .fin => rfl
  | .ref b n => rfl
  | .act s rs => by simp [Talk.dual, Talk.size, Rows.dual_size rs]
theorem Rows.dual_size : ∀ rs : Rows, rs.dual.size = rs.size
  | .nil => rfl
  | .cons l k t rs => by simp [Rows.dual, Rows.size, Talk.dual_size t, Rows.dual_size rs]
end
mutual
theorem Talk.dual_dep : ∀ t : Talk, t.dual.dep = t.dep
  | .fin => rfl
  | .ref b n => rfl
  | .act s rs => by simp [Talk.dual, Talk.dep, Rows.dual_dep rs]
theorem Rows.dual_dep : ∀ rs : Rows, rs.dual.dep = rs.dep
  | .nil => rfl
  | .cons l k t rs => by simp [Rows.dual, Rows.dep, Talk.dual_dep t, Rows.dual_dep rs]
end
theorem D_act {s : Bool} {rs : Rows} : (Talk.act s rs).D = .tuple [.str (atag s), .tuple rs.D] := rfl
/-! ### the table, heads -/
abbrev Tab := List (Str × Talk)
def Tab.D (tab : Tab) : List (Str × PD) := tab.map fun p => (p.1, p.2.D)
def Tab.get (tab : Tab) (n : Str) : Option Talk := (tab.find? fun p => decide (p.1 = n)).map (·.2)
theorem Tab.lkp (n : Str) : ∀ tab : Tab, lkp tab.D n = (tab.get n).map Talk.D
  | [] => rfl
  | p :: r => by
    have ih := Tab.lkp n r
    unfold K49.lkp Tab.D Tab.get at ih ⊢
    rw [List.map_cons, List.find?_cons, List.find?_cons]
    by_cases h : p.1 = n
    · simp [h]
    · simp only [decide_eq_false h]
      exact ih
/-- a name's place, from the end; 0: no such name -/
def Tab.rank : Tab → Str → Nat
  | [], _ => 0
  | p :: r, n => if p.1 = n then r.length + 1 else Tab.rank r n
def Talk.rk (tab : Tab) : Talk → Nat
  | .ref _ n => tab.rank n
  | _ => 0
def gs (x : Str) : Bool := PyData.canLay0 (.str x)
def Rows.ne : Rows → Bool
  | .nil => false
  | .cons _ _ _ _ => true
mutual
/-- every reference names an entry, no act is without rows -/
def Talk.refs (tab : Tab) : Talk → Bool
  | .fin => true
  | .ref _ n => (tab.get n).isSome
  | .act _ rs => rs.ne && rs.refs tab
def Rows.refs (tab : Tab) : Rows → Bool
  | .nil => true
  | .cons l k t rs => gs l && (match k with | .ref _ n => (tab.get n).isSome | _ => true) && t.refs tab && rs.refs tab
end
/-- a table as the law draws it: an entry that is a reference names a later one; small; texts in order -/
structure Tab.Ok (tab : Tab) : Prop where
  len : tab.length ≤ 3
  nd : (tab.map (·.1)).Nodup
  up : ∀ n b m, tab.get n = some (.ref b m) → tab.rank m < tab.rank n
  refs : ∀ n t, tab.get n = some t → t.refs tab = true
  dep : ∀ n t, tab.get n = some t → t.dep ≤ 2
  size : ∀ n t, tab.get n = some t → t.size ≤ 25
  good : ∀ n t, tab.get n = some t → gs n = true
def headF (tab : Tab) : Nat → Talk → Talk
  | n + 1, .ref b m => match tab.get m with
    | some t => if b then (headF tab n t).dual else headF tab n t
    | none => .fin
  | _, t => t
def headM (tab : Tab) (t : Talk) : Talk := headF tab 4 t
theorem Tab.rank_le (n : Str) : ∀ tab : Tab, tab.rank n ≤ tab.length
  | [] => Nat.le_refl 0
  | p :: r => by
    have := Tab.rank_le n r
    simp only [Tab.rank, List.length_cons]
    split <;> omega
theorem Tab.rank_pos {n : Str} : ∀ {tab : Tab}, tab.get n ≠ none → tab.rank n ≠ 0
  | [], h => absurd rfl h
  | p :: r, h => by
    simp only [Tab.rank]
    split
    · omega
    · rename_i hp
      exact Tab.rank_pos (by simpa [Tab.get, hp] using h)
theorem headF_more (tab : Tab) (ok : tab.Ok) : ∀ (n m : Nat) (t : Talk), t.rk tab < n → t.rk tab < m → headF tab n t = headF tab m t := by
  intro n
  induction n with
  | zero => intro m t h; omega
  | succ n ih =>
    intro m t h1 h2
    cases m with
    | zero => omega
    | succ m =>
      cases t with
      | fin => rfl
      | act s rs => rfl
      | ref b x =>
        simp only [headF]
        cases e : tab.get x with
        | none => rfl
        | some t =>
          have hr : t.rk tab < n ∧ t.rk tab < m := by
            cases t with
            | ref b' y =>
              have := ok.up x b' y e
              simp only [Talk.rk] at h1 h2 ⊢
              omega
            | fin =>
              have := Tab.rank_pos (tab := tab) (n := x) (by rw [e]; simp)
              simp only [Talk.rk] at h1 h2 ⊢
              omega
            | act s rs =>
              have := Tab.rank_pos (tab := tab) (n := x) (by rw [e]; simp)
              simp only [Talk.rk] at h1 h2 ⊢
              omega
          dsimp only
          rw [ih m t hr.1 hr.2]
theorem headM_ref {tab : Tab} (ok : tab.Ok) {b : Bool} {n : Str} {t : Talk} (e : tab.get n = some t) : headM tab (.ref b n) = if b then (headM tab t).dual else headM tab t := by
  have hl := ok.len
  have hr := Tab.rank_le n tab
  have h3 : t.rk tab < 3 := by
    cases t with
    | ref b' y =>
      have := ok.up n b' y e
      simp only [Talk.rk]
      omega
    | fin => simp [Talk.rk]
    | act s rs => simp [Talk.rk]
  unfold headM
  rw [show headF tab 4 (.ref b n) = match tab.get n with
    | some t => if b then (headF tab 3 t).dual else headF tab 3 t
    | none => .fin from rfl, e]
  dsimp only
  rw [headF_more tab ok 3 4 t h3 (by omega)]
theorem headM_non {tab : Tab} {t : Talk} (h : t.isRef = false) : headM tab t = t := by
  cases t with
  | ref b n => cases h
  | fin => rfl
  | act s rs => rfl
theorem headM_isRef {tab : Tab} (ok : tab.Ok) : ∀ (r : Nat) (t : Talk), t.rk tab ≤ r → t.refs tab = true → (headM tab t).isRef = false ∧ (headM tab t).refs tab = true := by
  have dr : ∀ t : Talk, t.isRef = false → t.dual.isRef = false := fun t h => by cases t <;> first | rfl | cases h
  have df : (∀ t : Talk, t.dual.refs tab = t.refs tab) := by
    intro t
    exact Talk.rec (motive_1 := fun t => t.dual.refs tab = t.refs tab) (motive_2 := fun rs => rs.dual.refs tab = rs.refs tab) rfl (fun b n => rfl) (fun s rs h => by have e : rs.dual.ne = rs.ne := (by cases rs <;> rfl); simp only [Talk.dual, Talk.refs]; rw [h, e]) rfl (fun l k t rs h1 h2 => by simp only [Rows.dual, Rows.refs, h1, h2]) t
  intro r
  induction r with
  | zero =>
    intro t h hr
    cases t with
    | fin => exact ⟨rfl, rfl⟩
    | act s rs => exact ⟨rfl, hr⟩
    | ref b n =>
      exfalso
      simp only [Talk.rk, Nat.le_zero] at h
      simp only [Talk.refs] at hr
      exact Tab.rank_pos (fun z => by rw [z] at hr; cases hr) h
  | succ r ih =>
    intro t h hr
    cases t with
    | fin => exact ⟨rfl, rfl⟩
    | act s rs => exact ⟨rfl, hr⟩
    | ref b n =>
      simp only [Talk.refs] at hr
      cases e : tab.get n with
      | none => rw [e] at hr; cases hr
      | some t =>
        have h2 : t.rk tab ≤ r := by
          cases t with
          | ref b' y =>
            have := ok.up n b' y e
            simp only [Talk.rk] at h ⊢
            omega
          | fin => simp [Talk.rk]
          | act s rs => simp [Talk.rk]
        obtain ⟨g1, g2⟩ := ih t h2 (ok.refs n t e)
        rw [headM_ref ok e]
        cases b with
        | true => exact ⟨dr _ g1, by rw [if_pos rfl, df]; exact g2⟩
        | false => exact ⟨g1, g2⟩
/-! ### rows -/
def Rows.find (x : Str) : Rows → Option (Kind × Talk)
  | .nil => none
  | .cons l k t rs => if l = x then some (k, t) else rs.find x
def rowD (x : Str) : Option (Kind × Talk) → PD
  | none => .none
  | some (k, t) => .tuple [.str x, k.D, t.D]
def Talk.rows : Talk → Rows
  | .act _ rs => rs
  | _ => .nil
def Talk.tag : Talk → Str
  | .fin => "end"
  | .ref b _ => rtag b
  | .act s _ => atag s
def Kind.isRef : Kind → Bool
  | .ref _ _ => true
  | _ => false
abbrev Row := Str × Kind × Talk
def Row.D (r : Row) : PD := .tuple [.str r.1, r.2.1.D, r.2.2.D]
def Rows.toL : Rows → List Row
  | .nil => []
  | .cons l k t rs => (l, k, t) :: rs.toL
theorem Rows.D_toL : ∀ rs : Rows, rs.D = rs.toL.map Row.D
  | .nil => rfl
  | .cons l k t rs => by rw [Rows.D, Rows.toL, List.map_cons, ← Rows.D_toL rs]; rfl
def Row.dD (r : Row) : PD := .tuple [.str r.1, r.2.1.D, r.2.2.dual.D]
theorem Rows.dual_D : ∀ rs : Rows, rs.dual.D = rs.toL.map Row.dD
  | .nil => rfl
  | .cons l k t rs => by rw [Rows.dual, Rows.D, Rows.toL, List.map_cons, ← Rows.dual_D rs]; rfl
theorem Rows.mem_le : ∀ {rs : Rows} {r : Row}, r ∈ rs.toL → r.2.2.dep ≤ rs.dep ∧ r.2.2.size + 1 ≤ rs.size
  | .cons l k t rs, r, h => by
    rcases List.mem_cons.mp h with z | z
    · subst z
      simp only [Rows.dep, Rows.size]
      omega
    · have := Rows.mem_le z
      simp only [Rows.dep, Rows.size]
      omega
theorem Rows.toL_len : ∀ rs : Rows, rs.toL.length ≤ rs.size
  | .nil => Nat.le_refl 0
  | .cons l k t rs => by
    have := Rows.toL_len rs
    simp only [Rows.toL, Rows.size, List.length_cons]
    omega
/-- what the table's functions are given -/
structure TA (tab : Tab) (t : Talk) : Prop where
  ok : tab.Ok
  rf : t.refs tab = true
  dep : t.dep ≤ 2
  size : t.size ≤ 25
theorem headF_small {tab : Tab} (ok : tab.Ok) : ∀ (n : Nat) (t : Talk), t.dep ≤ 2 → t.size ≤ 25 → (headF tab n t).dep ≤ 2 ∧ (headF tab n t).size ≤ 25
  | 0, t, h1, h2 => ⟨h1, h2⟩
  | n + 1, .fin, h1, h2 => ⟨h1, h2⟩
  | n + 1, .act s rs, h1, h2 => ⟨h1, h2⟩
  | n + 1, .ref b m, h1, h2 => by
    simp only [headF]
    cases e : tab.get m with
    | none => exact ⟨by simp [Talk.dep], by simp [Talk.size]⟩
    | some t =>
      obtain ⟨g1, g2⟩ := headF_small ok n t (ok.dep m t e) (ok.size m t e)
      cases b with
      | true => exact ⟨by simp only [if_pos]; rw [Talk.dual_dep]; exact g1, by simp only [if_pos]; rw [Talk.dual_size]; exact g2⟩
      | false => exact ⟨g1, g2⟩
theorem headM_small {tab : Tab} {t : Talk} (h : TA tab t) : (headM tab t).dep ≤ 2 ∧ (headM tab t).size ≤ 25 := headF_small h.ok 4 t h.dep h.size
theorem TA.head {tab : Tab} {t : Talk} (h : TA tab t) : TA tab (headM tab t) := ⟨h.ok, (headM_isRef h.ok _ t (Nat.le_refl _) h.rf).2, (headM_small h).1, (headM_small h).2⟩
theorem TA.non {tab : Tab} {t : Talk} (h : TA tab t) : (headM tab t).isRef = false := (headM_isRef h.ok _ t (Nat.le_refl _) h.rf).1
theorem TA.get {tab : Tab} {b : Bool} {n : Str} (h : TA tab (.ref b n)) : ∃ t, tab.get n = some t ∧ TA tab t ∧ t.rk tab < tab.rank n := by
  have hr := h.rf
  simp only [Talk.refs] at hr
  cases e : tab.get n with
  | none => rw [e] at hr; cases hr
  | some t =>
    refine ⟨t, rfl, ⟨h.ok, h.ok.refs n t e, h.ok.dep n t e, h.ok.size n t e⟩, ?_⟩
    cases t with
    | ref b' y => exact h.ok.up n b' y e
    | fin => exact Nat.pos_of_ne_zero (Tab.rank_pos (by rw [e]; simp))
    | act s rs => exact Nat.pos_of_ne_zero (Tab.rank_pos (by rw [e]; simp))
def rkD (tab : Tab) : PD → Nat
  | .tuple [.str _, .str n] => tab.rank n
  | _ => 0
theorem rkD_D (tab : Tab) (t : Talk) : rkD tab t.D = t.rk tab := by cases t <;> rfl
theorem ix_tb {kvs : List (Str × PD)} {n : Str} {d : PD} (h : lkp kvs n = some d) : ixW (.tb kvs) (.d (.str n)) = some (.d d) := by
  show (lkp kvs n).map W.d = _
  rw [h]; rfl
theorem ix_dt {kvs : List (Pl × PD)} {i j : Int} {d : PD} (h : lkp kvs (i, j) = some d) : ixW (.dt kvs) (.d (.tuple [.int i, .int j])) = some (.d d) := by
  show (lkp kvs (i, j)).map W.d = _
  rw [h]; rfl
/-! ### talks as data: they can be laid, compared -/
def Kind.ok (tab : Tab) : Kind → Bool
  | .ref _ n => (tab.get n).isSome
  | _ => true
theorem Rows.refs_cons {tab : Tab} {l : Str} {k : Kind} {t : Talk} {rs : Rows} : (Rows.cons l k t rs).refs tab = (gs l && k.ok tab && t.refs tab && rs.refs tab) := by
  simp only [Rows.refs]
  cases k <;> rfl
theorem gs_lit {b : Bool} : PyData.canLay0 (.str (rtag b)) = true ∧ PyData.canLay0 (.str (atag b)) = true := by cases b <;> exact ⟨by decide +kernel, by decide +kernel⟩
theorem Kind.lay {tab : Tab} (ok : tab.Ok) {k : Kind} (h : k.ok tab = true) : PyData.canLay0 k.D = true ∧ PyData.depth k.D ≤ 1 := by
  cases k with
  | non => exact ⟨by simp [Kind.D, PyData.canLay0], by simp [Kind.D, PyData.depth]⟩
  | int => exact ⟨by simp only [Kind.D]; decide +kernel, by simp [Kind.D, PyData.depth]⟩
  | bool => exact ⟨by simp only [Kind.D]; decide +kernel, by simp [Kind.D, PyData.depth]⟩
  | ref b n =>
    simp only [Kind.ok] at h
    obtain ⟨t, ht⟩ := Option.isSome_iff_exists.mp h
    have := ok.good n t ht
    refine ⟨?_, by simp [Kind.D, PyData.depth, PyData.depthAll]⟩
    simp only [Kind.D, PyData.canLay0, PyData.canLayAll0]
    have g := gs_lit (b := b)
    simp only [gs, PyData.canLay0] at this g
    rw [this, g.1]
    rfl
mutual
theorem Talk.lay {tab : Tab} (ok : tab.Ok) : ∀ t : Talk, t.refs tab = true → PyData.canLay0 t.D = true ∧ PyData.depth t.D ≤ 3 * t.dep + 1
  | .fin, _ => ⟨by simp only [Talk.D]; decide +kernel, by simp [Talk.D, PyData.depth, PyData.depthAll, Talk.dep]⟩
  | .ref b n, h => by
    have := Kind.lay ok (k := .ref b n) (by simpa [Kind.ok, Talk.refs] using h)
    exact ⟨this.1, by have := this.2; simp only [Talk.dep]; exact this⟩
  | .act s rs, h => by
    obtain ⟨h1, h2⟩ := Rows.lay ok rs (by simp only [Talk.refs, Bool.and_eq_true] at h; exact h.2)
    refine ⟨?_, ?_⟩
    · simp only [Talk.D, PyData.canLay0, PyData.canLayAll0]
      have g := gs_lit (b := s)
      simp only [PyData.canLay0] at g
      rw [g.2, h1]
      rfl
    · simp only [Talk.D, PyData.depth, PyData.depthAll, Talk.dep]
      omega
theorem Rows.lay {tab : Tab} (ok : tab.Ok) : ∀ rs : Rows, rs.refs tab = true → PyData.canLayAll0 rs.D = true ∧ PyData.depthAll rs.D ≤ 3 * rs.dep + 2
  | .nil, _ => ⟨by simp [Rows.D, PyData.canLayAll0], by simp [Rows.D, PyData.depthAll]⟩
  | .cons l k t rs, h => by
    rw [Rows.refs_cons] at h
    simp only [Bool.and_eq_true] at h
    obtain ⟨⟨⟨h1, h2⟩, h3⟩, h4⟩ := h
    obtain ⟨g1, g2⟩ := Talk.lay ok t h3
    obtain ⟨g3, g4⟩ := Rows.lay ok rs h4
    obtain ⟨g5, g6⟩ := Kind.lay ok h2
    refine ⟨?_, ?_⟩
    · simp only [gs, PyData.canLay0] at h1
      simp only [Rows.D, PyData.canLayAll0, PyData.canLay0]
      rw [h1, g1, g3, g5]
      rfl
    · simp only [Rows.D, PyData.depthAll, PyData.depth, Rows.dep]
      omega
end
theorem shaped_of {d : PD} (h1 : PyData.canLay0 d = true) (h2 : PyData.depth d ≤ 64) : SeqAt.shaped d = true := by
  unfold SeqAt.shaped
  rw [h1, decide_eq_true h2]
  rfl
theorem TA.shaped {tab : Tab} {t : Talk} (h : TA tab t) : SeqAt.shaped t.D = true := by
  obtain ⟨h1, h2⟩ := Talk.lay h.ok t h.rf
  have := h.dep
  exact shaped_of h1 (by omega)
theorem Kind.shaped {tab : Tab} (ok : tab.Ok) {k : Kind} (h : k.ok tab = true) : SeqAt.shaped k.D = true := by
  obtain ⟨h1, h2⟩ := Kind.lay ok h
  exact shaped_of h1 (by omega)
theorem eqv_str {x y : Str} : PyData.eqv (.str x) (.str y) = decide (x = y) := by
  simp only [PyData.eqv]
  by_cases h : x = y
  · subst h; simp
  · rw [decide_eq_false h]; exact beq_eq_false_iff_ne.mpr h
theorem Rows.find_ok {tab : Tab} {x : Str} : ∀ {rs : Rows} {k : Kind} {t : Talk}, rs.refs tab = true → rs.find x = some (k, t) → k.ok tab = true ∧ t.refs tab = true ∧ t.dep ≤ rs.dep ∧ t.size < rs.size
  | .nil, _, _, _, h => by cases h
  | .cons l k t rs, k', t', h, e => by
    rw [Rows.refs_cons] at h
    simp only [Bool.and_eq_true] at h
    obtain ⟨⟨⟨h1, h2⟩, h3⟩, h4⟩ := h
    simp only [Rows.find] at e
    split at e
    · cases e
      exact ⟨h2, h3, by simp only [Rows.dep]; omega, by simp only [Rows.size]; omega⟩
    · obtain ⟨g1, g2, g3, g4⟩ := Rows.find_ok h4 e
      exact ⟨g1, g2, by simp only [Rows.dep]; omega, by simp only [Rows.size]; omega⟩
theorem TA.next {tab : Tab} {s : Bool} {rs : Rows} {x : Str} {k : Kind} {t : Talk} (h : TA tab (.act s rs)) (e : rs.find x = some (k, t)) : TA tab t ∧ k.ok tab = true := by
  obtain ⟨g1, g2, g3, g4⟩ := Rows.find_ok (rs := rs) (by have := h.rf; simp only [Talk.refs, Bool.and_eq_true] at this; exact this.2) e
  have h1 := h.dep
  have h2 := h.size
  simp only [Talk.dep, Talk.size] at h1 h2
  exact ⟨⟨h.ok, g2, by omega, by omega⟩, g1⟩
/-! ### the heads that a table can give -/
mutual
def Talk.subs : Talk → List Talk
  | .fin => [.fin]
  | .ref b n => [.ref b n]
  | .act s rs => .act s rs :: rs.subs
def Rows.subs : Rows → List Talk
  | .nil => []
  | .cons _ _ t rs => t.subs ++ rs.subs
end
mutual
theorem Talk.subs_len : ∀ t : Talk, t.subs.length ≤ t.size
  | .fin => Nat.le_refl 1
  | .ref b n => Nat.le_refl 1
  | .act s rs => by
    have := Rows.subs_len rs
    simp only [Talk.subs, Talk.size, List.length_cons]
    omega
theorem Rows.subs_len : ∀ rs : Rows, rs.subs.length ≤ rs.size
  | .nil => Nat.le_refl 0
  | .cons l k t rs => by
    have h1 := Talk.subs_len t
    have h2 := Rows.subs_len rs
    simp only [Rows.subs, Rows.size, List.length_append]
    omega
end
theorem Talk.self_sub : ∀ t : Talk, t ∈ t.subs
  | .fin => by simp [Talk.subs]
  | .ref b n => by simp [Talk.subs]
  | .act s rs => by simp [Talk.subs]
theorem Rows.find_sub {x : Str} : ∀ {rs : Rows} {k : Kind} {t : Talk}, rs.find x = some (k, t) → t ∈ rs.subs
  | .nil, _, _, h => by cases h
  | .cons l k' t' rs, k, t, h => by
    simp only [Rows.find] at h
    simp only [Rows.subs, List.mem_append]
    split at h
    · cases h; exact .inl (Talk.self_sub _)
    · exact .inr (Rows.find_sub h)
mutual
theorem Talk.sub_row {x : Str} {s : Bool} {rs : Rows} {k : Kind} {u : Talk} : ∀ {t : Talk}, Talk.act s rs ∈ t.subs → rs.find x = some (k, u) → u ∈ t.subs
  | .fin, h, _ => by simp [Talk.subs] at h
  | .ref b n, h, _ => by simp [Talk.subs] at h
  | .act s' rs', h, e => by
    simp only [Talk.subs, List.mem_cons] at h ⊢
    rcases h with z | z
    · cases z; exact .inr (Rows.find_sub e)
    · exact .inr (Rows.sub_row z e)
theorem Rows.sub_row {x : Str} {s : Bool} {rs : Rows} {k : Kind} {u : Talk} : ∀ {rs' : Rows}, Talk.act s rs ∈ rs'.subs → rs.find x = some (k, u) → u ∈ rs'.subs
  | .nil, h, _ => by simp [Rows.subs] at h
  | .cons _ _ t' rs', h, e => by
    simp only [Rows.subs, List.mem_append] at h ⊢
    rcases h with z | z
    · exact .inl (Talk.sub_row z e)
    · exact .inr (Rows.sub_row z e)
end
def Tab.ent (tab : Tab) : List Talk := tab.flatMap fun p => p.2.subs
def Tab.U (tab : Tab) : List Talk := tab.ent ++ tab.ent.map Talk.dual
theorem Rows.find_dual {x : Str} : ∀ {rs : Rows}, rs.dual.find x = (rs.find x).map fun p => (p.1, p.2.dual)
  | .nil => rfl
  | .cons l k t rs => by
    simp only [Rows.dual, Rows.find]
    split
    · rfl
    · exact Rows.find_dual
theorem Tab.get_mem {n : Str} {t : Talk} : ∀ {tab : Tab}, tab.get n = some t → (n, t) ∈ tab
  | [], h => by cases h
  | p :: r, h => by
    by_cases hp : p.1 = n
    · have : p.2 = t := by simpa [Tab.get, hp] using h
      subst hp this
      exact List.mem_cons_self
    · exact List.mem_cons_of_mem _ (Tab.get_mem (by simpa [Tab.get, hp] using h))
theorem U_dual {tab : Tab} {t : Talk} (h : t ∈ tab.U) : t.dual ∈ tab.U := by
  unfold Tab.U at h ⊢
  rcases List.mem_append.mp h with z | z
  · exact List.mem_append_right _ (List.mem_map.mpr ⟨t, z, rfl⟩)
  · obtain ⟨u, hu, rfl⟩ := List.mem_map.mp z
    rw [Talk.dual_dual]
    exact List.mem_append_left _ hu
theorem U_entry {tab : Tab} {n : Str} {t : Talk} (h : tab.get n = some t) : t ∈ tab.U :=
  List.mem_append_left _ (List.mem_flatMap.mpr ⟨_, Tab.get_mem h, Talk.self_sub t⟩)
theorem U_row {tab : Tab} {x : Str} {s : Bool} {rs : Rows} {k : Kind} {u : Talk} (h : Talk.act s rs ∈ tab.U) (e : rs.find x = some (k, u)) : u ∈ tab.U := by
  have base : ∀ {s : Bool} {rs : Rows} {k : Kind} {u : Talk}, Talk.act s rs ∈ tab.ent → rs.find x = some (k, u) → u ∈ tab.ent := by
    intro s rs k u h e
    obtain ⟨p, hp, h2⟩ := List.mem_flatMap.mp h
    exact List.mem_flatMap.mpr ⟨p, hp, Talk.sub_row h2 e⟩
  unfold Tab.U at h ⊢
  rcases List.mem_append.mp h with z | z
  · exact List.mem_append_left _ (base z e)
  · obtain ⟨v, hv, hd⟩ := List.mem_map.mp z
    cases v with
    | fin => cases hd
    | ref b n => cases hd
    | act s' rs' =>
      simp only [Talk.dual, Talk.act.injEq] at hd
      obtain ⟨_, rfl⟩ := hd
      rw [Rows.find_dual] at e
      cases e2 : rs'.find x with
      | none => rw [e2] at e; cases e
      | some p =>
        rw [e2] at e
        cases e
        exact List.mem_append_right _ (List.mem_map.mpr ⟨_, base hv e2, rfl⟩)
/-- t's head is one of the table's -/
theorem U_head {tab : Tab} (ok : tab.Ok) : ∀ (r : Nat) (t : Talk), t.rk tab ≤ r → t.refs tab = true → (t.isRef = true ∨ t ∈ tab.U) → headM tab t ∈ tab.U := by
  intro r
  induction r with
  | zero =>
    intro t h hr hu
    cases t with
    | fin => rcases hu with z | z; cases z; exact z
    | act s rs => rcases hu with z | z; cases z; exact z
    | ref b n =>
      exfalso
      simp only [Talk.rk, Nat.le_zero] at h
      simp only [Talk.refs] at hr
      exact Tab.rank_pos (fun z => by rw [z] at hr; cases hr) h
  | succ r ih =>
    intro t h hr hu
    cases t with
    | fin => rcases hu with z | z; cases z; exact z
    | act s rs => rcases hu with z | z; cases z; exact z
    | ref b n =>
      simp only [Talk.refs] at hr
      obtain ⟨t2, e⟩ := Option.isSome_iff_exists.mp hr
      have h2 : t2.rk tab ≤ r := by
        cases t2 with
        | ref b' y =>
          have := ok.up n b' y e
          simp only [Talk.rk] at h ⊢
          omega
        | fin => simp [Talk.rk]
        | act s rs => simp [Talk.rk]
      have := ih t2 h2 (ok.refs n t2 e) (.inr (U_entry e))
      rw [headM_ref ok e]
      cases b with
      | true => exact U_dual this
      | false => exact this
theorem U_len {tab : Tab} (ok : tab.Ok) : tab.U.length ≤ 150 := by
  have h1 : ∀ l : Tab, (∀ p ∈ l, p.2.size ≤ 25) → (l.flatMap fun p => p.2.subs).length ≤ 25 * l.length := by
    intro l
    induction l with
    | nil => intro _; exact Nat.le_refl 0
    | cons p l ih =>
      intro h
      have g1 := Talk.subs_len p.2
      have g2 := h p List.mem_cons_self
      have g3 := ih fun q hq => h q (List.mem_cons_of_mem _ hq)
      rw [List.flatMap_cons, List.length_append, List.length_cons]
      omega
  have h2 : ∀ p ∈ tab, p.2.size ≤ 25 := fun p hp => by
    refine ok.size p.1 p.2 ?_
    have : ∀ l : Tab, (l.map (·.1)).Nodup → p ∈ l → l.get p.1 = some p.2 := by
      intro l
      induction l with
      | nil => intro _ h; cases h
      | cons q l ih =>
        intro hn h
        rw [List.map_cons, List.nodup_cons] at hn
        rcases List.mem_cons.mp h with z | z
        · subst z; simp [Tab.get]
        · have : q.1 ≠ p.1 := fun e => hn.1 (by rw [e]; exact List.mem_map.mpr ⟨p, z, rfl⟩)
          have g := ih hn.2 z
          simpa [Tab.get, this] using g
    exact this tab ok.nd hp
  have h3 := h1 tab h2
  have h4 := ok.len
  unfold Tab.U Tab.ent
  rw [List.length_append, List.length_map]
  omega
/-- a talk of a side: small, its head one of the table's -/
structure TU (tab : Tab) (t : Talk) : Prop extends TA tab t where
  inU : t.isRef = true ∨ t ∈ tab.U
theorem TU.hu {tab : Tab} {t : Talk} (h : TU tab t) : headM tab t ∈ tab.U := U_head h.ok _ t (Nat.le_refl _) h.rf h.inU
theorem TU.head {tab : Tab} {t : Talk} (h : TU tab t) : TU tab (headM tab t) := ⟨h.toTA.head, .inr h.hu⟩
theorem TU.next {tab : Tab} {s : Bool} {rs : Rows} {x : Str} {k : Kind} {t : Talk} (h : TU tab (.act s rs)) (e : rs.find x = some (k, t)) : TU tab t ∧ k.ok tab = true := by
  obtain ⟨g1, g2⟩ := h.toTA.next e
  refine ⟨⟨g1, .inr (U_row (s := s) (rs := rs) ?_ e)⟩, g2⟩
  rcases h.inU with z | z
  · cases z
  · exact z
def Kind.T : Kind → Talk
  | .ref b n => .ref b n
  | _ => .fin
theorem TU.kind {tab : Tab} (ok : tab.Ok) {k : Kind} (h : k.ok tab = true) (hr : k.isRef = true) : TU tab k.T ∧ k.T.D = k.D := by
  cases k with
  | ref b n => exact ⟨⟨⟨ok, by simpa [Kind.ok, Kind.T, Talk.refs] using h, by simp [Kind.T, Talk.dep], by simp [Kind.T, Talk.size]⟩, .inl rfl⟩, rfl⟩
  | _ => cases hr
/-! ### subtalks: the pairs that are reached -/
abbrev Pr := Talk × Talk
def Pr.D (p : Pr) : PD := .tuple [p.1.D, p.2.D]
def memP (ws : List Pr) (p : Pr) : Bool := (ws.map Pr.D).any fun z => PyData.eqv z p.D
def addP (ws : List Pr) : List Pr → List Pr
  | [] => ws
  | p :: r => addP (if memP ws p then ws else ws ++ [p]) r
def fineM (s : Bool) (r1 r2 : Rows) (x : Str) : Bool := match r1.find x, r2.find x with
  | some (k1, _), some (k2, _) => (if s then PyData.eqv k2.D k1.D else PyData.eqv k1.D k2.D) || (k1.isRef && k2.isRef)
  | _, _ => false
def newP (tab : Tab) (s : Bool) (r1 r2 : Rows) (x : Str) : List Pr := match r1.find x, r2.find x with
  | some (k1, t1), some (k2, t2) => (if (if s then k2 else k1).isRef then [if s then (headM tab k2.T, headM tab k1.T) else (headM tab k1.T, headM tab k2.T)] else []) ++ [(headM tab t1, headM tab t2)]
  | _, _ => []
def goRows (tab : Tab) (s : Bool) (r1 r2 : Rows) : Rows → List Pr → Option (List Pr)
  | .nil, ws => some ws
  | .cons l _ _ rs, ws => if fineM s r1 r2 l then goRows tab s r1 r2 rs (addP ws (newP tab s r1 r2 l)) else none
def stepM (tab : Tab) (ws : List Pr) : Pr → Option (List Pr)
  | (.fin, .fin) => some ws
  | (.act s r1, .act s' r2) => if s = s' then goRows tab s r1 r2 (if s then r2 else r1) ws else none
  | _ => none
inductive Rch (tab : Tab) : List Pr → Nat → Bool → Prop
  | done {ws : List Pr} {i : Nat} : ws.length ≤ i → Rch tab ws i true
  | bad {ws : List Pr} {i : Nat} {p : Pr} : ws[i]? = some p → stepM tab ws p = none → Rch tab ws i false
  | step {ws ws' : List Pr} {i : Nat} {p : Pr} {b : Bool} : ws[i]? = some p → stepM tab ws p = some ws' → Rch tab ws' (i + 1) b → Rch tab ws i b
theorem Rch.det {tab : Tab} {ws : List Pr} {i : Nat} {b b' : Bool} (h : Rch tab ws i b) (g : Rch tab ws i b') : b = b' := by
  induction h with
  | done h =>
    cases g with
    | done => rfl
    | bad e _ => have := (List.getElem?_eq_some_iff.mp e).1; omega
    | step e _ _ => have := (List.getElem?_eq_some_iff.mp e).1; omega
  | bad e h =>
    cases g with
    | done g => have := (List.getElem?_eq_some_iff.mp e).1; omega
    | bad => rfl
    | step e' h' _ => rw [e] at e'; cases e'; rw [h] at h'; cases h'
  | step e h _ ih =>
    cases g with
    | done g => have := (List.getElem?_eq_some_iff.mp e).1; omega
    | bad e' h' => rw [e] at e'; cases e'; rw [h] at h'; cases h'
    | step e' h' g => rw [e] at e'; cases e'; rw [h] at h'; cases h'; exact ih g
/-- pairs of heads, all different -/
structure PrOk (tab : Tab) (p : Pr) : Prop where
  t1 : TU tab p.1
  t2 : TU tab p.2
  u1 : p.1 ∈ tab.U
  u2 : p.2 ∈ tab.U
  n1 : p.1.isRef = false
  n2 : p.2.isRef = false
theorem PrOk.mk' {tab : Tab} {a b : Talk} (h1 : TU tab a) (h2 : TU tab b) : PrOk tab (headM tab a, headM tab b) := ⟨h1.head, h2.head, h1.hu, h2.hu, h1.toTA.non, h2.toTA.non⟩
structure WsOk (tab : Tab) (ws : List Pr) : Prop where
  nd : ws.Nodup
  u : ∀ p ∈ ws, PrOk tab p
theorem nodup_len {α : Type} : ∀ {l m : List α}, l.Nodup → (∀ x ∈ l, x ∈ m) → l.length ≤ m.length
  | [], _, _, _ => Nat.zero_le _
  | a :: l, m, h, hs => by
    rw [List.nodup_cons] at h
    obtain ⟨m1, m2, rfl⟩ := List.append_of_mem (hs a List.mem_cons_self)
    have := nodup_len (l := l) (m := m1 ++ m2) h.2 fun x hx => by
      have := hs x (List.mem_cons_of_mem _ hx)
      have hne : x ≠ a := fun e => h.1 (e ▸ hx)
      simp only [List.mem_append, List.mem_cons] at this ⊢
      rcases this with z | z | z
      · exact .inl z
      · exact absurd z hne
      · exact .inr z
    simp only [List.length_append, List.length_cons] at this ⊢
    omega
theorem WsOk.len {tab : Tab} (ok : tab.Ok) {ws : List Pr} (h : WsOk tab ws) : ws.length ≤ 22500 := by
  have h1 := U_len ok
  have : ws.length ≤ (tab.U.flatMap fun a => tab.U.map fun b => (a, b)).length := nodup_len h.nd fun p hp => by
    have g := h.u p hp
    exact List.mem_flatMap.mpr ⟨p.1, g.u1, List.mem_map.mpr ⟨p.2, g.u2, rfl⟩⟩
  have h2 : ∀ l : List Talk, (l.flatMap fun a => tab.U.map fun b => (a, b)).length = l.length * tab.U.length := by
    intro l
    induction l with
    | nil => simp
    | cons a l ih => rw [List.flatMap_cons, List.length_append, List.length_map, ih, List.length_cons, Nat.succ_mul, Nat.add_comm]
  rw [h2] at this
  have : tab.U.length * tab.U.length ≤ 150 * 150 := Nat.mul_le_mul h1 h1
  omega
theorem Pr.lay {tab : Tab} {p : Pr} (h1 : TU tab p.1) (h2 : TU tab p.2) : PyData.canLay0 p.D = true ∧ PyData.depth p.D ≤ 8 := by
  obtain ⟨a1, a2⟩ := Talk.lay h1.ok p.1 h1.rf
  obtain ⟨b1, b2⟩ := Talk.lay h2.ok p.2 h2.rf
  have := h1.dep
  have := h2.dep
  refine ⟨?_, ?_⟩
  · simp only [Pr.D, PyData.canLay0, PyData.canLayAll0, a1, b1]
    rfl
  · simp only [Pr.D, PyData.depth, PyData.depthAll]
    omega
theorem WsOk.add1 {tab : Tab} {ws : List Pr} {p : Pr} (h : WsOk tab ws) (hp : PrOk tab p) : WsOk tab (if memP ws p then ws else ws ++ [p]) := by
  split
  · exact h
  · rename_i hm
    refine ⟨List.nodup_append.mpr ⟨h.nd, by simp, fun a ha b hb => ?_⟩, fun q hq => ?_⟩
    · obtain rfl : b = p := by simpa using hb
      rintro rfl
      refine hm (List.any_eq_true.mpr ⟨a.D, List.mem_map.mpr ⟨a, ha, rfl⟩, ?_⟩)
      exact SeqAt.eqv_refl _ (Pr.lay hp.t1 hp.t2).1
    · rcases List.mem_append.mp hq with z | z
      · exact h.u q z
      · obtain rfl : q = p := by simpa using z
        exact hp
/-! ## The walk: one step, by what stands next -/
theorem br_t {b : Bool} {A B : Prop} (h : b = true) (a : A) : (b = true → A) ∧ (b = false → B) := ⟨fun _ => a, fun e => by rw [h] at e; cases e⟩
theorem br_f {b : Bool} {A B : Prop} (h : b = false) (a : B) : (b = true → A) ∧ (b = false → B) := ⟨fun e => (by rw [h] at e; cases e), fun _ => a⟩
local macro_rules | `(tactic| kbo_bools) => `(tactic| (with_reducible apply LkP.s; kbo_bools))
local macro_rules | `(tactic| kbo_bools) => `(tactic| with_reducible exact LkP.z)
local macro_rules | `(tactic| kbo_bools) => `(tactic| (with_reducible apply LkO.s; kbo_bools))
local macro_rules | `(tactic| kbo_bools) => `(tactic| with_reducible exact LkO.z)
local macro_rules | `(tactic| kbo_bools) => `(tactic| (with_reducible apply Lk.s; kbo_bools))
local macro_rules | `(tactic| kbo_bools) => `(tactic| with_reducible exact Lk.z)
local macro_rules | `(tactic| o_fieldsN) => `(tactic| (with_reducible apply Up.s; o_fieldsN))
local macro_rules | `(tactic| o_fieldsN) => `(tactic| with_reducible exact Up.z)
local macro_rules | `(tactic| wtm_at "k.fld") => `(tactic| first | with_reducible exact Fld.tab | with_reducible exact Fld.talks | with_reducible exact Fld.marks | with_reducible exact Fld.boxes | with_reducible exact Fld.opened | with_reducible exact Fld.fin | with_reducible exact Fld.owed)
local macro_rules | `(tactic| kcf_all) => `(tactic| (with_reducible refine List.mem_cons_of_mem _ ?_; kcf_all))
local macro_rules | `(tactic| kcf_all) => `(tactic| with_reducible exact List.mem_cons_self)
local macro_rules | `(tactic| kd_addB) => `(tactic| (with_reducible apply Fz.any; kd_addB))
local macro_rules | `(tactic| kd_addB) => `(tactic| (with_reducible apply Fz.som FzS.olg; kd_addB))
local macro_rules | `(tactic| kd_addB) => `(tactic| (with_reducible apply Fz.som FzS.ost; kd_addB))
local macro_rules | `(tactic| kd_addB) => `(tactic| (with_reducible apply Fz.som FzS.otb; kd_addB))
local macro_rules | `(tactic| kd_addB) => `(tactic| (with_reducible apply Fz.som FzS.l; kd_addB))
local macro_rules | `(tactic| kd_addB) => `(tactic| (with_reducible apply Fz.som FzS.pool; kd_addB))
local macro_rules | `(tactic| kd_addB) => `(tactic| (with_reducible apply Fz.som FzS.r; kd_addB))
local macro_rules | `(tactic| kd_addB) => `(tactic| (with_reducible apply Fz.non; kd_addB))
local macro_rules | `(tactic| kd_addB) => `(tactic| with_reducible exact Fz.nil)
local macro_rules | `(tactic| wtm_at "k.mk") => `(tactic| repeat (first | exact Mk.nil | apply Mk.keep (by decide) (by decide) | apply Mk.drop))
local macro_rules | `(tactic| wtm_at "k.a") => `(tactic| with_reducible assumption)
local macro_rules | `(tactic| wtm_at "k.le") => `(tactic| first | exact Nat.le_of_ble_eq_true rfl | assumption)
local macro_rules | `(tactic| wtm_at "k.eo") => `(tactic| first | exact eo_str | rfl | assumption)
local macro_rules | `(tactic| k_allIn) => `(tactic| refine ⟨fun h => ?_, fun h => ?_⟩)
local macro_rules | `(tactic| k_allIn) => `(tactic| refine br_f rfl ?_)
local macro_rules | `(tactic| k_allIn) => `(tactic| refine br_t rfl ?_)
local macro_rules | `(tactic| k_allIn) => `(tactic| refine br_f (by with_reducible assumption) ?_)
local macro_rules | `(tactic| k_allIn) => `(tactic| refine br_t (by with_reducible assumption) ?_)
local macro_rules | `(tactic| k_memK) => `(tactic| ((with_reducible show DE _ _ (.Call (.Attribute (.Name "PARTS" _) _ _) _ _ _) _); refine de_parts (by with_reducible assumption) (by with_reducible assumption) (by with_reducible assumption) (by (first | kcf_all | fail "no")) ?_))
local macro_rules | `(tactic| k_memK) => `(tactic| ((with_reducible show DE _ _ (.Call (.Name "sorted" _) _ _ _) _); with_reducible refine de_of_df (df_sorted (by with_reducible assumption) (by with_reducible assumption) (by with_reducible assumption) (by (first | kcf_all | fail "no")) ?_)))
local macro_rules | `(tactic| k_memK) => `(tactic| ((with_reducible show DE _ _ (.Call (.Name "list" _) _ _ _) _); with_reducible refine de_of_df (df_list (by with_reducible assumption) (by with_reducible assumption) (by with_reducible assumption) (by (first | kcf_all | fail "no")) ?_)))
local macro_rules | `(tactic| k_memK) => `(tactic| ((with_reducible show DE _ _ (.Call (.Name "dict" _) _ _ _) _); with_reducible refine de_dict (by with_reducible assumption) (by with_reducible assumption) (by with_reducible assumption) (by (first | kcf_all | fail "no")) ?_))
local macro_rules | `(tactic| k_memK) => `(tactic| ((with_reducible show DE _ _ (.Call (.Name "tuple" _) _ _ _) _); with_reducible refine de_tuple (by with_reducible assumption) (by with_reducible assumption) (by with_reducible assumption) (by (first | kcf_all | fail "no")) ?_))
local macro_rules | `(tactic| k_memK) => `(tactic| ((with_reducible show DE _ _ (.Call (.Name "abs" _) _ _ _) _); with_reducible refine de_abs (by with_reducible assumption) (by with_reducible assumption) (by with_reducible assumption) (by (first | kcf_all | fail "no")) ?_))
local macro_rules | `(tactic| k_memK) => `(tactic| ((with_reducible show DE _ _ (.Call (.Name "int" _) _ _ _) _); with_reducible refine de_toInt (by with_reducible assumption) (by with_reducible assumption) (by with_reducible assumption) (by (first | kcf_all | fail "no")) ?_))
local macro_rules | `(tactic| k_memK) => `(tactic| ((with_reducible show DE _ _ (.Call (.Name "len" _) _ _ _) _); with_reducible refine de_len (by with_reducible assumption) (by with_reducible assumption) (by with_reducible assumption) (by (first | kcf_all | fail "no")) ?_))
local macro_rules | `(tactic| k_memK) => `(tactic| ((with_reducible show DE _ _ (.Call (.Name "len" _) [.Name _ _] _ _) _); with_reducible refine de_lenL (by with_reducible assumption) (by with_reducible assumption) (by with_reducible assumption) (by with_reducible assumption) (by (first | kcf_all | fail "no")) (by (first | kbo_bools | fail "no")) ?_))
local macro_rules | `(tactic| k_memK) => `(tactic| ((with_reducible show DE _ _ (.Call (.Name "len" _) [.Name _ _] _ _) _); with_reducible refine de_lenR (by with_reducible assumption) (by with_reducible assumption) (by with_reducible assumption) (by with_reducible assumption) (by (first | kcf_all | fail "no")) (by (first | kbo_bools | fail "no")) ?_))
local macro_rules | `(tactic| k_memK) => `(tactic| ((with_reducible show DE _ _ (.Call (.Name "isinstance" _) [_, .Name "str" _] _ _) _); with_reducible refine de_isin (by with_reducible assumption) (by with_reducible assumption) (by with_reducible assumption) (by (first | kcf_all | fail "no")) (by (first | kcf_all | fail "no")) (fun b => b.str) PyProof.Rows.boot_str ?_ kb_str))
local macro_rules | `(tactic| k_memK) => `(tactic| ((with_reducible show DE _ _ (.Call (.Name "isinstance" _) [_, .Name "bool" _] _ _) _); with_reducible refine de_isin (by with_reducible assumption) (by with_reducible assumption) (by with_reducible assumption) (by (first | kcf_all | fail "no")) (by (first | kcf_all | fail "no")) (fun b => b.bool) PyProof.Rows.boot_bool ?_ kb_bool))
local macro_rules | `(tactic| k_memK) => `(tactic| ((with_reducible show DE _ _ (.Call (.Name "isinstance" _) [_, .Name "int" _] _ _) _); with_reducible refine de_isin (by with_reducible assumption) (by with_reducible assumption) (by with_reducible assumption) (by (first | kcf_all | fail "no")) (by (first | kcf_all | fail "no")) (fun b => b.int) PyProof.Rows.boot_int ?_ kb_int))
local macro_rules | `(tactic| k_memK) => `(tactic| ((with_reducible show DE _ _ (.Call (.Name "isinstance" _) [_, .Name "tuple" _] _ _) _); with_reducible refine de_isin (by with_reducible assumption) (by with_reducible assumption) (by with_reducible assumption) (by (first | kcf_all | fail "no")) (by (first | kcf_all | fail "no")) (fun b => b.tuple) PyProof.Rows.boot_tuple ?_ kb_tup))
local macro_rules | `(tactic| kct_strs) => `(tactic| ((with_reducible show DE _ _ (.Call (.Attribute _ _ _) (_ :: _) _ _) _); refine de_meth (by with_reducible assumption) (by with_reducible assumption) (by with_reducible assumption) (by decide) ?_))
local macro_rules | `(tactic| kct_strs) => `(tactic| ((with_reducible show DE _ _ (.Call (.Attribute _ _ _) [] _ _) _); refine de_of_df (df_meth0 (by with_reducible assumption) (by with_reducible assumption) (by with_reducible assumption) (by decide) ?_)))
local macro_rules | `(tactic| kct_strs) => `(tactic| ((with_reducible show DE _ _ (.Call (.Name _ _) (.Name _ _ :: _) _ _) _); with_reducible refine de_of_df (df_callP (by with_reducible assumption) (by with_reducible assumption) (by with_reducible assumption) (by (first | kbo_bools | fail "no")) (by with_reducible assumption) (by (first | kcf_all | fail "no")) ?_)))
local macro_rules | `(tactic| kct_strs) => `(tactic| ((with_reducible show DE _ _ (.Call (.Name _ _) (_ :: _) _ _) _); with_reducible refine de_of_df (df_call (by with_reducible assumption) (by with_reducible assumption) (by with_reducible assumption) (by (first | kcf_all | fail "no")) ?_)))
local macro_rules | `(tactic| kct_strs) => `(tactic| ((with_reducible show DE _ _ (.Call (.Name _ _) (.Name _ _ :: _) _ _) _); with_reducible refine de_callP (by with_reducible assumption) (by with_reducible assumption) (by with_reducible assumption) (by (first | kbo_bools | fail "no")) (by with_reducible assumption) (by (first | kcf_all | fail "no")) ?_))
local macro_rules | `(tactic| kct_strs) => `(tactic| ((with_reducible show DE _ _ (.Call (.Name _ _) (_ :: _) _ _) _); with_reducible refine de_call (by with_reducible assumption) (by with_reducible assumption) (by with_reducible assumption) (by (first | kcf_all | fail "no")) ?_))
local macro_rules | `(tactic| kat_tups) => `(tactic| ((with_reducible show DE _ _ (.Call _ _ _ _) _); kct_strs))
local macro_rules | `(tactic| kat_tups) => `(tactic| ((with_reducible show DE _ _ (.Call _ _ _ _) _); k_memK))
local macro_rules | `(tactic| kat_tups) => `(tactic| ((with_reducible show DE _ _ (.Compare _ [.LtE, .LtE] _ _) _); with_reducible refine de_chain ic_le ic_le ?_))
local macro_rules | `(tactic| kat_tups) => `(tactic| ((with_reducible show DE _ _ (.Compare _ [.LtE, .Lt] _ _) _); with_reducible refine de_chain ic_le ic_lt ?_))
local macro_rules | `(tactic| kat_tups) => `(tactic| ((with_reducible show DE _ _ (.BinOp _ .FloorDiv _ _) _); with_reducible refine de_fdiv ?_))
local macro_rules | `(tactic| kat_tups) => `(tactic| ((with_reducible show DE _ _ (.BinOp _ .Mod _ _) _); with_reducible refine de_mod ?_))
local macro_rules | `(tactic| kat_tups) => `(tactic| ((with_reducible show DE _ _ (.BinOp _ .Mult _ _) _); with_reducible refine de_mul ?_))
local macro_rules | `(tactic| kat_tups) => `(tactic| ((with_reducible show DE _ _ (.BinOp _ .Sub _ _) _); with_reducible refine de_sub ?_))
local macro_rules | `(tactic| kat_tups) => `(tactic| ((with_reducible show DE _ _ (.BinOp _ .Add _ _) _); with_reducible refine de_add ?_))
local macro_rules | `(tactic| kat_tups) => `(tactic| ((with_reducible show DE _ _ (.IfExp _ _ _ _) _); with_reducible refine de_ifExp ?_))
local macro_rules | `(tactic| kat_tups) => `(tactic| ((with_reducible show DE _ _ (.UnaryOp .USub _ _) _); with_reducible refine de_neg ?_))
local macro_rules | `(tactic| kat_tups) => `(tactic| ((with_reducible show DE _ _ (.UnaryOp .Not _ _) _); with_reducible refine de_not (by with_reducible assumption) ?_))
local macro_rules | `(tactic| kat_tups) => `(tactic| ((with_reducible show DE _ _ (.BoolOp .Or _ _) _); with_reducible refine de_or ?_))
local macro_rules | `(tactic| kat_tups) => `(tactic| ((with_reducible show DE _ _ (.BoolOp .And _ _) _); with_reducible refine de_and ?_))
local macro_rules | `(tactic| kat_tups) => `(tactic| ((with_reducible show DE _ _ (.BoolOp _ [_] _) _); with_reducible refine de_one ?_))
local macro_rules | `(tactic| kat_tups) => `(tactic| ((with_reducible show DE _ _ (.List _ _) _); with_reducible refine de_of_df (df_lst ?_)))
local macro_rules | `(tactic| kat_tups) => `(tactic| ((with_reducible show DE _ _ (.Tuple _ _ _) _); with_reducible refine de_tup ?_))
local macro_rules | `(tactic| kat_tups) => `(tactic| ((with_reducible show DE _ _ (.Compare _ [_] [_] _) _); with_reducible refine de_cr ?_ (hm := by kernel_rfl)))
local macro_rules | `(tactic| kat_tups) => `(tactic| ((with_reducible show DE _ _ (.Attribute _ _ _) _); with_reducible refine de_fld (by with_reducible assumption) (by with_reducible assumption) ?_))
local macro_rules | `(tactic| kat_tups) => `(tactic| ((with_reducible show DE _ _ (.Subscript _ _ _) _); with_reducible refine de_ix (by with_reducible assumption) ?_ (hb := by intro X; with_unfolding_all (intro _ _; kernel_rfl))))
local macro_rules | `(tactic| kat_tups) => `(tactic| ((with_reducible show DE _ _ (.Subscript (.Name _ _) _ _) _); with_reducible refine de_pool0 (by with_reducible assumption) (by with_reducible assumption) (by (first | kbo_bools | fail "no")) (fun n => ?_)))
local macro_rules | `(tactic| kat_tups) => `(tactic| ((with_reducible show DE _ _ (.Subscript (.Name _ _) _ _) _); with_reducible refine de_ixL (by with_reducible assumption) (by with_reducible assumption) (by (first | kbo_bools | fail "no")) ?_ (hb := by intro X; with_unfolding_all (intro _ _; kernel_rfl))))
local macro_rules | `(tactic| kat_tups) => `(tactic| ((with_reducible show DE _ _ (.Subscript (.Name _ _) _ _) _); with_reducible refine de_ixR (by with_reducible assumption) (by with_reducible assumption) (by (first | kbo_bools | fail "no")) ?_ (hb := by intro X; with_unfolding_all (intro _ _; kernel_rfl))))
local macro_rules | `(tactic| kat_tups) => `(tactic| ((with_reducible show DE _ _ (.Subscript (.Tuple _ _ _) (.Slice _ _ _ _) _) _); with_reducible refine de_cut ?_))
local macro_rules | `(tactic| kat_tups) => `(tactic| ((with_reducible show DE _ _ (.Subscript (.Name _ _) (.Slice _ _ _ _) _) _); with_reducible refine de_cutL (by with_reducible assumption) (by with_reducible assumption) (by (first | kbo_bools | fail "no")) ?_))
local macro_rules | `(tactic| kat_tups) => `(tactic| ((with_reducible show DE _ _ (.Subscript (.Name _ _) (.Slice _ _ _ _) _) _); with_reducible refine de_cutT (by with_reducible assumption) (by with_reducible assumption) (by (first | kbo_bools | fail "no")) ?_))
local macro_rules | `(tactic| kat_tups) => `(tactic| ((with_reducible show DE _ _ (.Constant .none _ _) _); with_reducible refine de_non ?_))
local macro_rules | `(tactic| kat_tups) => `(tactic| ((with_reducible show DE _ _ (.Constant (.bool _) _ _) _); with_reducible refine de_bl ?_))
local macro_rules | `(tactic| kat_tups) => `(tactic| ((with_reducible show DE _ _ (.Constant (.int _) _ _) _); with_reducible refine de_int ?_))
local macro_rules | `(tactic| kat_tups) => `(tactic| ((with_reducible show DE _ _ (.Constant (.str _) _ _) _); with_reducible refine de_str ?_))
local macro_rules | `(tactic| kat_tups) => `(tactic| ((with_reducible show DE _ _ (.Name _ _) _); with_reducible refine de_glob (by with_reducible assumption) (by with_reducible assumption) (by with_reducible assumption) (by with_reducible assumption) (by (first | kcf_all | fail "no")) ?_))
local macro_rules | `(tactic| kat_tups) => `(tactic| ((with_reducible show DE _ _ (.Name _ _) _); with_reducible refine de_var (by with_reducible assumption) (by with_reducible assumption) (by (first | kbo_bools | fail "no")) ?_))
local macro_rules | `(tactic| keq_rows) => `(tactic| ((with_reducible show DF _ _ (.Call (.Name _ _) (_ :: _) _ _) _); with_reducible refine df_callP (by with_reducible assumption) (by with_reducible assumption) (by with_reducible assumption) (by (first | kbo_bools | fail "no")) (by with_reducible assumption) (by (first | kcf_all | fail "no")) ?_))
local macro_rules | `(tactic| keq_rows) => `(tactic| ((with_reducible show DF _ _ (.Call (.Name _ _) (_ :: _) _ _) _); with_reducible refine df_call (by with_reducible assumption) (by with_reducible assumption) (by with_reducible assumption) (by (first | kcf_all | fail "no")) ?_))
local macro_rules | `(tactic| keq_rows) => `(tactic| ((with_reducible show DF _ _ (.Call (.Name "sorted" _) _ _ _) _); with_reducible refine df_sorted (by with_reducible assumption) (by with_reducible assumption) (by with_reducible assumption) (by (first | kcf_all | fail "no")) ?_))
local macro_rules | `(tactic| keq_rows) => `(tactic| ((with_reducible show DF _ _ (.Call (.Name "list" _) _ _ _) _); with_reducible refine df_list (by with_reducible assumption) (by with_reducible assumption) (by with_reducible assumption) (by (first | kcf_all | fail "no")) ?_))
local macro_rules | `(tactic| keq_rows) => `(tactic| ((with_reducible show DF _ _ (.Call (.Name "list" _) [.Call (.Name "reversed" _) _ _ _] _ _) _); with_reducible refine df_rev (by with_reducible assumption) (by with_reducible assumption) (by with_reducible assumption) (by (first | kcf_all | fail "no")) (by (first | kcf_all | fail "no")) ?_))
local macro_rules | `(tactic| keq_rows) => `(tactic| ((with_reducible show DF _ _ (.Subscript _ (.Slice _ _ _ _) _) _); with_reducible refine df_cut ?_))
local macro_rules | `(tactic| keq_rows) => `(tactic| ((with_reducible show DF _ _ (.BinOp _ .Add _ _) _); with_reducible refine df_catE ?_))
local macro_rules | `(tactic| keq_rows) => `(tactic| ((with_reducible show DF _ _ (.List _ _) _); with_reducible refine df_lst ?_))
local macro_rules | `(tactic| leaf_len) => `(tactic| ((with_reducible show CR _ _ .GtE _ _ _); with_reducible refine cr_int ic_ge ?_))
local macro_rules | `(tactic| leaf_len) => `(tactic| ((with_reducible show CR _ _ .Gt _ _ _); with_reducible refine cr_int ic_gt ?_))
local macro_rules | `(tactic| leaf_len) => `(tactic| ((with_reducible show CR _ _ .LtE _ _ _); with_reducible refine cr_int ic_le ?_))
local macro_rules | `(tactic| leaf_len) => `(tactic| ((with_reducible show CR _ _ .Lt _ _ _); with_reducible refine cr_int ic_lt ?_))
local macro_rules | `(tactic| leaf_len) => `(tactic| ((with_reducible show CR _ _ .NotIn _ _ _); with_reducible refine cr_notin (by with_reducible assumption) ?_))
local macro_rules | `(tactic| leaf_len) => `(tactic| ((with_reducible show CR _ _ .NotIn _ (.Name _ _) _); with_reducible refine cr_notinL (by with_reducible assumption) (by with_reducible assumption) (by (first | kbo_bools | fail "no")) ?_))
local macro_rules | `(tactic| leaf_len) => `(tactic| ((with_reducible show CR _ _ .In _ _ _); with_reducible refine cr_in (by with_reducible assumption) ?_))
local macro_rules | `(tactic| leaf_len) => `(tactic| ((with_reducible show CR _ _ .IsNot _ _ _); with_reducible refine cr_isnot ?_))
local macro_rules | `(tactic| leaf_len) => `(tactic| ((with_reducible show CR _ _ .Is _ _ _); with_reducible refine cr_is ?_))
local macro_rules | `(tactic| leaf_len) => `(tactic| ((with_reducible show CR _ _ .NotEq _ _ _); with_reducible refine cr_ne (by with_reducible assumption) ?_))
local macro_rules | `(tactic| leaf_len) => `(tactic| ((with_reducible show CR _ _ .Eq _ _ _); with_reducible refine cr_eq (by with_reducible assumption) ?_))
local macro_rules | `(tactic| kas_types) => `(tactic| ((with_reducible show DW _ _ (.BoolOp .Or _ _) _); with_reducible refine dw_or ?_))
local macro_rules | `(tactic| kas_types) => `(tactic| ((with_reducible show DW _ _ (.BoolOp .And _ _) _); with_reducible refine dw_and ?_))
local macro_rules | `(tactic| kas_types) => `(tactic| ((with_reducible show DW _ _ (.BoolOp .Or [_] _) _); with_reducible refine dw_or1 ?_))
local macro_rules | `(tactic| kas_types) => `(tactic| ((with_reducible show DW _ _ (.BoolOp .And [_] _) _); with_reducible refine dw_and1 ?_))
local macro_rules | `(tactic| kas_types) => `(tactic| ((with_reducible show DT _ _ _ _); with_reducible refine dt_truth (by with_reducible assumption) ?_))
local macro_rules | `(tactic| kas_types) => `(tactic| ((with_reducible show DT _ _ (.Name _ _) _); with_reducible refine dt_truthL (by with_reducible assumption) (by with_reducible assumption) (by (first | kbo_bools | fail "no")) ?_))
local macro_rules | `(tactic| kas_types) => `(tactic| ((with_reducible show DT _ _ (.Name _ _) _); with_reducible refine dt_truthR (by with_reducible assumption) (by with_reducible assumption) (by (first | kbo_bools | fail "no")) ?_))
local macro_rules | `(tactic| kas_types) => `(tactic| ((with_reducible show DT _ _ (.BoolOp _ _ _) _); with_reducible refine dt_dw ?_))
local macro_rules | `(tactic| kas_types) => `(tactic| ((with_reducible show DT _ _ (.UnaryOp .Not _ _) _); with_reducible refine dt_not ?_))
local macro_rules | `(tactic| kas_types) => `(tactic| ((with_reducible show DT _ _ (.Compare _ [_] [_] _) _); with_reducible refine dt_cr ?_ (hm := by kernel_rfl)))
local macro_rules | `(tactic| kp_flats) => `(tactic| ((with_reducible show DGs _ _ (_ :: _) _ _); with_reducible refine dgs_cons ?_))
local macro_rules | `(tactic| kp_flats) => `(tactic| ((with_reducible show DGs _ _ [] _ _); with_reducible refine dgs_nil (by with_reducible assumption) ?_))
local macro_rules | `(tactic| kp_flats) => `(tactic| ((with_reducible show DG _ _ (.Tuple _ _ _) _ _); refine dg_tup (by with_reducible assumption) ?_ rfl))
local macro_rules | `(tactic| kp_flats) => `(tactic| ((with_reducible show DG _ _ (.Name _ _) _ _); with_reducible refine dg_name (by with_reducible assumption) (by with_reducible assumption) (by with_reducible assumption) (by (first | kcf_all | fail "no")) ?_))
local macro_rules | `(tactic| kp_flats) => `(tactic| ((with_reducible show DO _ _ (some _) _); with_reducible refine do_some ?_))
local macro_rules | `(tactic| kp_flats) => `(tactic| ((with_reducible show DO _ _ none _); with_reducible refine do_none ?_))
local macro_rules | `(tactic| kp_flats) => `(tactic| ((with_reducible show DA _ _ (_ :: _) _); with_reducible refine da_cons ?_))
local macro_rules | `(tactic| kp_flats) => `(tactic| ((with_reducible show DA _ _ [] _); with_reducible refine da_nil ?_))
local macro_rules | `(tactic| kp_flats) => `(tactic| ((with_reducible show DD _ _ (_ :: _) _); with_reducible refine dd_cons ?_))
local macro_rules | `(tactic| kp_flats) => `(tactic| ((with_reducible show DD _ _ [] _); with_reducible refine dd_nil ?_))
local macro_rules | `(tactic| tb_rel) => `(tactic| ((with_reducible show DS _ _ (.Continue _) _); with_reducible refine ds_cont ?_))
local macro_rules | `(tactic| tb_rel) => `(tactic| ((with_reducible show DS _ _ (.Assign [.Tuple _ _ _] _ _) _); with_reducible refine ds_asgG ?_))
local macro_rules | `(tactic| tb_rel) => `(tactic| ((with_reducible show DS _ _ (.Assign [.Name _ _] _ _) _); with_reducible refine ds_asg (by with_reducible assumption) (by with_reducible assumption) (by (first | kcf_all | fail "no")) (by with_reducible assumption) (by (first | kcf_all | fail "no")) ?_))
local macro_rules | `(tactic| tb_rel) => `(tactic| ((with_reducible show DS _ _ (.Assign [.Name _ _] (.List _ _) _) _); with_reducible refine ds_asgF (by with_reducible assumption) (by with_reducible assumption) (by (first | kcf_all | fail "no")) (by with_reducible assumption) (by (first | kcf_all | fail "no")) ?_))
local macro_rules | `(tactic| tb_rel) => `(tactic| ((with_reducible show DS _ _ (.Return none _) _); with_reducible refine ds_retN ?_))
local macro_rules | `(tactic| tb_rel) => `(tactic| ((with_reducible show DS _ _ (.Expr (.Call (.Attribute (.Name _ _) "append" _) [_] _ _) _) _); refine ds_app (by with_reducible assumption) (by with_reducible assumption) (by (first | kbo_bools | fail "no")) ?_))
local macro_rules | `(tactic| tb_rel) => `(tactic| ((with_reducible show DS _ _ (.Return (some _) _) _); with_reducible refine ds_ret ?_))
local macro_rules | `(tactic| tb_rel) => `(tactic| ((with_reducible show DS _ _ (.Return (some (.ListComp _ _ _ _)) _) _); with_reducible refine ds_retF ?_))
local macro_rules | `(tactic| tb_rel) => `(tactic| ((with_reducible show DS _ _ (.Return (some (.List _ _)) _) _); with_reducible refine ds_retF ?_))
local macro_rules | `(tactic| tb_rel) => `(tactic| ((with_reducible show DS _ _ (.Return (some (.Name _ _)) _) _); with_reducible refine ds_ret ?_))
local macro_rules | `(tactic| tb_rel) => `(tactic| ((with_reducible show DS _ _ (.Return (some (.Name _ _)) _) _); with_reducible refine ds_retL (by with_reducible assumption) (by with_reducible assumption) (by (first | kbo_bools | fail "no")) ?_))
local macro_rules | `(tactic| tb_rel) => `(tactic| ((with_reducible show DS _ _ (.Return (some (.Name _ _)) _) _); with_reducible refine ds_retV (by with_reducible assumption) (by with_reducible assumption) (by (first | kbo_bools | fail "no")) ?_))
local macro_rules | `(tactic| tb_rel) => `(tactic| ((with_reducible show DS _ _ (.If _ _ _ _) _); with_reducible refine ds_if ?_))
local macro_rules | `(tactic| tb_rel) => `(tactic| ((with_reducible show DSs _ _ [] _); with_reducible refine dss_nil ?_))
local macro_rules | `(tactic| tb_rel) => `(tactic| ((with_reducible show DSs _ _ (_ :: _) _); with_reducible refine dss_cons ?_))
local macro_rules | `(tactic| tb_rel) => `(tactic| ((with_reducible show DSs _ _ [_] _); with_reducible refine dss_one ?_))
local macro_rules | `(tactic| wtm_at "k.im") => `(tactic| first | rfl | with_reducible assumption | exact Talk.imm _)
local macro_rules | `(tactic| cell_call) => `(tactic| ((with_reducible show ∃ L, W.lg _ = W.lg L ∧ _); refine ⟨_, rfl, ?_⟩))
local macro_rules | `(tactic| cell_call) => `(tactic| ((with_reducible show ∃ i j, W.d _ = W.d (.int i) ∧ _ = W.d (.int j) ∧ _); refine ⟨_, _, rfl, rfl, ?_⟩))
local macro_rules | `(tactic| cell_call) => `(tactic| ((with_reducible show ∃ r, W.d _ = W.d (.list r) ∧ _); refine ⟨_, rfl, ?_⟩))
local macro_rules | `(tactic| cell_call) => `(tactic| ((with_reducible show ∃ r, W.d _ = W.d (.tuple r) ∧ _); refine ⟨_, rfl, ?_⟩))
local macro_rules | `(tactic| cell_call) => `(tactic| ((with_reducible show ∃ r, W.d _ = W.d (.int r) ∧ _); refine ⟨_, rfl, ?_⟩))
local macro_rules | `(tactic| cell_call) => `(tactic| ((with_reducible show ∃ r, W.d _ = W.d (.bool r) ∧ _); refine ⟨_, rfl, ?_⟩))
local macro_rules | `(tactic| cell_call) => `(tactic| ((with_reducible show ∃ r, addW _ _ = some r ∧ _); with_reducible refine ⟨_, add_int, ?_⟩))
local macro_rules | `(tactic| cell_call) => `(tactic| ((with_reducible show ∃ ds, lkp _ _ = some (.list ds) ∧ _); refine ⟨_, by with_reducible assumption, ?_⟩))
local macro_rules | `(tactic| cell_call) => `(tactic| ((with_reducible show ∃ r, inW _ _ = some r ∧ _); refine ⟨_, rfl, ?_⟩))
local macro_rules | `(tactic| cell_call) => `(tactic| ((with_reducible show ∃ r, inW _ _ = some r ∧ _); refine ⟨_, by with_reducible assumption, ?_⟩))
local macro_rules | `(tactic| cell_call) => `(tactic| ((with_reducible show ∃ y z : Int, W.d _ = W.d (.tuple [.int y, .int z]) ∧ _); refine ⟨_, _, rfl, ?_⟩))
local macro_rules | `(tactic| cell_call) => `(tactic| ((with_reducible show ∃ n d, W.d _ = W.d (.int n) ∧ _ ∧ _); refine ⟨_, _, rfl, rfl, ?_⟩))
local macro_rules | `(tactic| cell_call) => `(tactic| ((with_reducible show ∃ r, lenW _ = some r ∧ _); refine ⟨_, rfl, ?_⟩))
local macro_rules | `(tactic| cell_call) => `(tactic| ((with_reducible show ∃ L r, W.lg _ = W.lg L ∧ Fld _ L r ∧ _); refine ⟨_, _, rfl, by (first | with_reducible exact Fld.tab | with_reducible exact Fld.talks | with_reducible exact Fld.marks | with_reducible exact Fld.boxes | with_reducible exact Fld.opened | with_reducible exact Fld.fin | with_reducible exact Fld.owed), ?_⟩))
local macro_rules | `(tactic| cell_call) => `(tactic| ((with_reducible show ∃ r, truW _ = some r ∧ _); refine ⟨_, rfl, ?_⟩))
local macro_rules | `(tactic| cell_call) => `(tactic| ((with_reducible show ∃ r, truW _ = some r ∧ _); refine ⟨_, by with_reducible assumption, ?_⟩))
local macro_rules | `(tactic| cell_call) => `(tactic| ((with_reducible show ∃ env', Up _ _ _ _ env' ∧ _); refine ⟨_, by (first | o_fieldsN | fail "no"), ?_⟩))
local macro_rules | `(tactic| cell_call) => `(tactic| ((with_reducible show ∃ d e, _ ∧ _ ∧ eqOk d e = true ∧ _); refine ⟨_, _, rfl, rfl, by (first | with_reducible assumption | with_reducible exact eo_str | exact rfl | assumption), ?_⟩))
local macro_rules | `(tactic| cell_call) => `(tactic| ((with_reducible show ∃ r, ixW _ _ = some r ∧ _); refine ⟨_, rfl, ?_⟩))
local macro_rules | `(tactic| cell_call) => `(tactic| ((with_reducible show ∃ r, ixW _ _ = some r ∧ _); refine ⟨_, by with_reducible assumption, ?_⟩))
local macro_rules | `(tactic| cell_call) => `(tactic| ((with_reducible show ∃ r, W.d _ = W.d r ∧ _); refine ⟨_, rfl, ?_⟩))
local macro_rules | `(tactic| kd_addW) => `(tactic| ((with_reducible show imm _ = true ∧ List.length _ < 1000000 ∧ _); refine ⟨by with_reducible assumption, by with_reducible assumption, ?_⟩))
local macro_rules | `(tactic| kd_addW) => `(tactic| ((with_reducible show (List.length _ < 1000000 ∧ List.length _ < 1000000) ∧ _); refine ⟨⟨by with_reducible assumption, by with_reducible assumption⟩, ?_⟩))
local macro_rules | `(tactic| kd_addW) => `(tactic| ((with_reducible show List.length _ < 1000000 ∧ _); refine ⟨by (first | with_reducible assumption | exact Nat.le_of_ble_eq_true rfl | assumption), ?_⟩))
local macro_rules | `(tactic| kd_addW) => `(tactic| ((with_reducible show immAll _ = true ∧ _); refine ⟨by first | with_reducible assumption | with_reducible exact immAll_nil, ?_⟩))
local macro_rules | `(tactic| kd_addW) => `(tactic| ((with_reducible show List.length _ ≤ 1000 ∧ _); refine ⟨by (first | with_reducible assumption | exact Nat.le_of_ble_eq_true rfl | assumption), ?_⟩))
local macro_rules | `(tactic| kd_addW) => `(tactic| ((with_reducible show immW _ = true ∧ _); refine ⟨by (first | with_reducible assumption | exact rfl | exact Talk.imm _), ?_⟩))
local macro_rules | `(tactic| kd_addW) => `(tactic| ((with_reducible show (_ = true → _) ∧ (_ = false → _)); k_allIn))
local macro_rules | `(tactic| k_upd) => `(tactic| kp_flats)
local macro_rules | `(tactic| k_upd) => `(tactic| ((with_reducible show DF _ _ _ _); keq_rows))
local macro_rules | `(tactic| k_upd) => `(tactic| ((with_reducible show DW _ _ _ _); kas_types))
local macro_rules | `(tactic| k_upd) => `(tactic| ((with_reducible show DS _ _ _ _); tb_rel))
local macro_rules | `(tactic| k_upd) => `(tactic| ((with_reducible show CR _ _ _ _ _ _); leaf_len))
local macro_rules | `(tactic| k_upd) => `(tactic| ((with_reducible show DSs _ _ _ _); tb_rel))
local macro_rules | `(tactic| k_upd) => `(tactic| ((with_reducible show DA _ _ _ _); kp_flats))
local macro_rules | `(tactic| k_upd) => `(tactic| ((with_reducible show DT _ _ _ _); kas_types))
local macro_rules | `(tactic| k_upd) => `(tactic| ((with_reducible show DD _ _ _ _); kp_flats))
local macro_rules | `(tactic| k_upd) => `(tactic| ((with_reducible show _ ∧ _); kd_addW))
local macro_rules | `(tactic| k_upd) => `(tactic| ((with_reducible show Exists _); cell_call))
local macro_rules | `(tactic| k_upd) => `(tactic| ((with_reducible show DE _ _ _ _); kat_tups))
local macro_rules | `(tactic| mem_news) => `(tactic| ((with_reducible show DSs _ _ [] _); with_reducible refine dss_nil ?_))
local macro_rules | `(tactic| mem_news) => `(tactic| ((with_reducible show DSs _ _ (_ :: _) _); with_reducible refine dss_cons ?_))
local macro_rules | `(tactic| mem_news) => `(tactic| ((with_reducible show DSs _ _ [_] _); with_reducible refine dss_one ?_))
local macro_rules | `(tactic| tb_start) => `(tactic| tb_rel)
local macro_rules | `(tactic| tb_start) => `(tactic| ((with_reducible show DS _ _ (.Return (some (.Call _ _ _ _)) _) _); with_reducible refine ds_ret (de_view (by (first | kd_addB | fail "no")) ?_)))
local macro_rules | `(tactic| tb_start) => `(tactic| ((with_reducible show DS _ _ (.Expr (.Call (.Attribute (.Subscript (.Subscript (.Name _ _) (.Constant (.int 2) _ _) _) _ _) "append" _) [_] _ _) _) _); refine st_appB (by with_reducible assumption) (by with_reducible assumption) (by (first | kbo_bools | fail "no")) (by (first | kd_addB | fail "no")) ?_))
local macro_rules | `(tactic| tb_start) => `(tactic| ((with_reducible show DS _ _ (.Expr (.Call (.Attribute (.Subscript (.Name _ _) (.Constant (.int 4) _ _) _) "append" _) [_] _ _) _) _); refine st_app (by with_reducible assumption) .o rfl (by with_reducible assumption) (by (first | kbo_bools | fail "no")) (.inr rfl) (by (first | kd_addB | fail "no")) ?_))
local macro_rules | `(tactic| tb_start) => `(tactic| ((with_reducible show DS _ _ (.Expr (.Call (.Attribute (.Subscript (.Name _ _) (.Constant (.int 3) _ _) _) "append" _) [_] _ _) _) _); refine st_app (by with_reducible assumption) .f rfl (by with_reducible assumption) (by (first | kbo_bools | fail "no")) (.inl rfl) (by (first | kd_addB | fail "no")) ?_))
local macro_rules | `(tactic| tb_start) => `(tactic| ((with_reducible show DS _ _ (.Assign [.Subscript (.Name _ _) (.Constant (.int 4) _ _) _] _ _) _); with_reducible refine st_setO (by with_reducible assumption) (by with_reducible assumption) (by (first | kbo_bools | fail "no")) (by (first | kd_addB | fail "no")) ?_))
local macro_rules | `(tactic| tb_start) => `(tactic| ((with_reducible show DS _ _ (.Assign [.Subscript (.Subscript (.Name _ _) (.Constant (.int 3) _ _) _) _ _] _ _) _); with_reducible refine st_setF (by with_reducible assumption) (by with_reducible assumption) (by (first | kbo_bools | fail "no")) (by (first | kd_addB | fail "no")) ?_))
local macro_rules | `(tactic| tb_start) => `(tactic| ((with_reducible show DS _ _ (.Assign [.Subscript (.Subscript (.Name _ _) (.Constant (.int 2) _ _) _) _ _] _ _) _); with_reducible refine st_putB (by with_reducible assumption) (by with_reducible assumption) (by (first | kbo_bools | fail "no")) (by (first | kd_addB | fail "no")) ?_))
local macro_rules | `(tactic| tb_start) => `(tactic| ((with_reducible show DS _ _ (.Assign [.Subscript (.Subscript (.Name _ _) (.Constant (.int 1) _ _) _) _ _] _ _) _); with_reducible refine st_put (by with_reducible assumption) .m rfl (by with_reducible assumption) (by (first | kbo_bools | fail "no")) (.inr rfl) (by (first | kd_addB | fail "no")) ?_))
local macro_rules | `(tactic| tb_start) => `(tactic| ((with_reducible show DS _ _ (.Assign [.Subscript (.Subscript (.Name _ _) (.Constant (.int 0) _ _) _) _ _] _ _) _); with_reducible refine st_put (by with_reducible assumption) .t rfl (by with_reducible assumption) (by (first | kbo_bools | fail "no")) (.inl rfl) (by (first | kd_addB | fail "no")) ?_))
local macro_rules | `(tactic| tb_start) => `(tactic| ((with_reducible show DS _ _ (.Expr (.Call (.Attribute (.Name _ _) _ _) (_ :: _) _ _) _) _); refine ds_methM (by with_reducible assumption) (by with_reducible assumption) (by with_reducible assumption) (by (first | kbo_bools | fail "no")) (by with_reducible assumption) (by decide) ?_))
local macro_rules | `(tactic| tb_start) => `(tactic| ((with_reducible show DS _ _ (.Expr (.Call (.Attribute (.Subscript (.Attribute (.Name _ _) "_boxes" _) _ _) "append" _) [_] _ _) _) _); refine lg_appB (by with_reducible assumption) (by with_reducible assumption) (by with_reducible assumption) (by (first | kbo_bools | fail "no")) (by (first | kd_addB | fail "no")) ?_))
local macro_rules | `(tactic| tb_start) => `(tactic| ((with_reducible show DS _ _ (.Expr (.Call (.Attribute (.Attribute (.Name _ _) "_owed" _) "append" _) [_] _ _) _) _); refine lg_app (by with_reducible assumption) (by with_reducible assumption) (by with_reducible assumption) (by (first | kbo_bools | fail "no")) SelF.o (.inr rfl) (by (first | kd_addB | fail "no")) ?_))
local macro_rules | `(tactic| tb_start) => `(tactic| ((with_reducible show DS _ _ (.Expr (.Call (.Attribute (.Attribute (.Name _ _) "_finished" _) "append" _) [_] _ _) _) _); refine lg_app (by with_reducible assumption) (by with_reducible assumption) (by with_reducible assumption) (by (first | kbo_bools | fail "no")) SelF.f (.inl rfl) (by (first | kd_addB | fail "no")) ?_))
local macro_rules | `(tactic| tb_start) => `(tactic| ((with_reducible show DS _ _ (.Assign [.Attribute (.Name _ _) "_opened" _] _ _) _); with_reducible refine lg_fldN (by with_reducible assumption) (by with_reducible assumption) (by with_reducible assumption) (by (first | kbo_bools | fail "no")) (by (first | kd_addB | fail "no")) ?_))
local macro_rules | `(tactic| tb_start) => `(tactic| ((with_reducible show DS _ _ (.Assign [.Attribute (.Name _ _) "_owed" _] _ _) _); with_reducible refine lg_fldO (by with_reducible assumption) (by with_reducible assumption) (by with_reducible assumption) (by (first | kbo_bools | fail "no")) (by (first | kd_addB | fail "no")) ?_))
local macro_rules | `(tactic| tb_start) => `(tactic| ((with_reducible show DS _ _ (.Assign [.Subscript (.Attribute (.Name _ _) "_finished" _) _ _] _ _) _); with_reducible refine lg_setF (by with_reducible assumption) (by with_reducible assumption) (by with_reducible assumption) (by (first | kbo_bools | fail "no")) (by (first | kd_addB | fail "no")) ?_))
local macro_rules | `(tactic| tb_start) => `(tactic| ((with_reducible show DS _ _ (.Assign [.Subscript (.Attribute (.Name _ _) "_boxes" _) _ _] _ _) _); with_reducible refine lg_putB (by with_reducible assumption) (by with_reducible assumption) (by with_reducible assumption) (by (first | kbo_bools | fail "no")) (by (first | kd_addB | fail "no")) ?_))
local macro_rules | `(tactic| tb_start) => `(tactic| ((with_reducible show DS _ _ (.Assign [.Subscript (.Attribute (.Name _ _) "_marks" _) _ _] _ _) _); with_reducible refine lg_put (by with_reducible assumption) (by with_reducible assumption) (by with_reducible assumption) (by (first | kbo_bools | fail "no")) SelF.m (.inr rfl) (by (first | kd_addB | fail "no")) ?_))
local macro_rules | `(tactic| tb_start) => `(tactic| ((with_reducible show DS _ _ (.Assign [.Subscript (.Attribute (.Name _ _) "_talks" _) _ _] _ _) _); with_reducible refine lg_put (by with_reducible assumption) (by with_reducible assumption) (by with_reducible assumption) (by (first | kbo_bools | fail "no")) SelF.t (.inl rfl) (by (first | kd_addB | fail "no")) ?_))
local macro_rules | `(tactic| tb_start) => `(tactic| ((with_reducible show DS _ _ (.Assign [.Name _ _] _ _) _); with_reducible refine ds_asg (by with_reducible assumption) (by with_reducible assumption) (by (first | kcf_all | fail "no")) (by with_reducible assumption) (by (first | kcf_all | fail "no")) (de_view (by (first | kd_addB | fail "no")) ?_)))
local macro_rules | `(tactic| tb_start) => `(tactic| ((with_reducible show DS _ _ (.If _ _ _ _) _); with_reducible refine ds_if (dt_view (by (first | kd_addB | fail "no")) ?_)))
local macro_rules | `(tactic| k_updF) => `(tactic| kp_flats)
local macro_rules | `(tactic| k_updF) => `(tactic| ((with_reducible show ∀ _ : Addr, _); intro _))
local macro_rules | `(tactic| k_updF) => `(tactic| ((with_reducible show ∀ _ : List Addr, _); intro _))
local macro_rules | `(tactic| k_updF) => `(tactic| ((with_reducible show DF _ _ _ _); keq_rows))
local macro_rules | `(tactic| k_updF) => `(tactic| ((with_reducible show DW _ _ _ _); kas_types))
local macro_rules | `(tactic| k_updF) => `(tactic| ((with_reducible show DS _ _ _ _); tb_start))
local macro_rules | `(tactic| k_updF) => `(tactic| ((with_reducible show CR _ _ _ _ _ _); leaf_len))
local macro_rules | `(tactic| k_updF) => `(tactic| ((with_reducible show DSs _ _ _ _); mem_news))
local macro_rules | `(tactic| k_updF) => `(tactic| ((with_reducible show DA _ _ _ _); kp_flats))
local macro_rules | `(tactic| k_updF) => `(tactic| ((with_reducible show DT _ _ _ _); kas_types))
local macro_rules | `(tactic| k_updF) => `(tactic| ((with_reducible show DD _ _ _ _); kp_flats))
local macro_rules | `(tactic| k_updF) => `(tactic| ((with_reducible show _ ∧ _); kd_addW))
local macro_rules | `(tactic| k_updF) => `(tactic| ((with_reducible show Exists _); cell_call))
local macro_rules | `(tactic| k_updF) => `(tactic| ((with_reducible show DE _ _ _ _); kat_tups))
local macro_rules | `(tactic| wtm_at "w") => `(tactic| repeat' (first | k_upd | fail "no"))
local macro_rules | `(tactic| wtm_at "m") => `(tactic| repeat' (first | k_updF | fail "no"))
local macro_rules | `(tactic| wtm_at "k1") => `(tactic| first | k_upd | fail "no")
local macro_rules | `(tactic| wtm_at "k.lk") => `(tactic| first | kbo_bools | fail "no")
local macro_rules | `(tactic| wtm_at "k.up") => `(tactic| first | o_fieldsN | fail "no")
local macro_rules | `(tactic| wtm_at "k.mem") => `(tactic| first | kcf_all | fail "no")
local macro_rules | `(tactic| wtm_at "k.fz") => `(tactic| first | kd_addB | fail "no")
local macro_rules | `(tactic| wtm_at "k.ll") => `(tactic| first | kbo_bools | fail "no")

section
variable {P : Program} {w : World} {K : PySem.W.Frag} {mg : Str → Option Value} {base : Heap} {C : Addr} (E : Fs w K mg C)
include E
theorem ok_is_reference : FnG P w K mg base "is_reference" 1 (SpD C (fun t : Talk => [.d t.D]) (fun t r => r = .d (.bool t.isRef))) := by
  obtain ⟨f, fd, F, hm⟩ := E.d_is_reference
  refine (st_is_reference F (fun _ => rfl) fun c I t => ?_).g hm F.kp
  have ok := I.ok
  have hN := I.N
  cases t with
  | fin =>
    show DSs c [some (.r (.d (.tuple [.str "end"])))] (_ :: _) _
    wtm_at "w"
    all_goals rfl
  | ref b n =>
    cases b with
    | false =>
      show DSs c [some (.r (.d (.tuple [.str "name", .str n])))] (_ :: _) _
      wtm_at "w"
      all_goals rfl
    | true =>
      show DSs c [some (.r (.d (.tuple [.str "dual", .str n])))] (_ :: _) _
      wtm_at "w"
      all_goals rfl
  | act s rs =>
    cases s with
    | false =>
      show DSs c [some (.r (.d (.tuple [.str "hear", .tuple rs.D])))] (_ :: _) _
      wtm_at "w"
      all_goals rfl
    | true =>
      show DSs c [some (.r (.d (.tuple [.str "say", .tuple rs.D])))] (_ :: _) _
      wtm_at "w"
      all_goals rfl
theorem ok_dual_kind : FnG P w K mg base "dual_kind" 1 (SpD C (fun z : Bool × Str => [.d (Talk.ref z.1 z.2).D]) (fun z r => r = .d (Talk.ref (!z.1) z.2).D)) := by
  obtain ⟨f, fd, F, hm⟩ := E.d_dual_kind
  refine (st_dual_kind F (fun _ => rfl) fun c I z => ?_).g hm F.kp
  have ok := I.ok
  have hN := I.N
  obtain ⟨b, n⟩ := z
  cases b with
  | false =>
    show DSs c [some (.r (.d (.tuple [.str "name", .str n])))] (_ :: _) _
    wtm_at "w"
    all_goals rfl
  | true =>
    show DSs c [some (.r (.d (.tuple [.str "dual", .str n])))] (_ :: _) _
    wtm_at "w"
    all_goals rfl
theorem ok_dual (d : Nat) : FnG P w K mg base "dual" (d + 2) (SpD C (fun t : { t : Talk // t.dep ≤ d ∧ t.size ≤ 100 } => [.d t.1.D]) (fun t r => r = .d t.1.dual.D)) := by
  obtain ⟨f, fd, F, hm⟩ := E.d_dual
  refine (st_dual F (fun _ => rfl) fun c I t => ?_).g hm F.kp
  have ok := I.ok
  have hN := I.N
  have hG := I.G
  have hL := I.Lo
  have bi := I.bi E.bi
  have f1 := I.fn (sp := fun C => SpD C _ _) (ok_is_reference E) (by omega)
  have f2 := I.fn (sp := fun C => SpD C _ _) (ok_dual_kind E) (by omega)
  obtain ⟨t, ht, hz⟩ := t
  cases t with
  | fin =>
    show DSs c [some (.r (.d Talk.fin.D)), none, none, none, none] (_ :: _) _
    wtm_at "w"
    refine ⟨.fin, rfl, fun w hw => ?_⟩
    subst hw
    wtm_at "w"
    all_goals rfl
  | ref b n =>
    show DSs c [some (.r (.d (Talk.ref b n).D)), none, none, none, none] (_ :: _) _
    wtm_at "w"
    refine ⟨.ref b n, rfl, fun w hw => ?_⟩
    subst hw
    wtm_at "w"
    exact ⟨(b, n), rfl, fun w hw => hw⟩
  | act s rs =>
    cases d with
    | zero => simp [Talk.dep] at ht
    | succ d =>
      have f3 := I.fn (sp := fun C => SpD C _ _) (ok_dual d) (by omega)
      have hzl : rs.toL.length ≤ 1000000 := by
        have := Rows.toL_len rs
        simp only [Talk.size] at hz
        omega
      cases s <;> (
        show DSs c [some (.r (.d (.tuple [.str _, .tuple rs.D]))), none, none, none, none] (_ :: _) _
        wtm_at "w"
        refine ⟨.act _ rs, rfl, fun w hw => ?_⟩
        subst hw
        wtm_at "w"
        refine de_of_df (lc_D .t I ["label", "payload", "following"] ["label", "payload", "following"] ["dual"] [("label", 2), ("payload", 3), ("following", 4)] (by decide +kernel) (by wtm_at "k.mk") fun cb Ib => ?_)
        wtm_at "w"
        have okb := Ib.ok
        have hNb := Ib.N
        have hGb := Ib.G
        have hLb := Ib.Lo
        have f3 := Ib.fn (sp := fun C => SpD C _ _) (ok_dual d) (by omega)
        rw [Rows.D_toL]
        refine lc_map Row.D Row.dD hzl (fun r hr => ?_) ?_
        · obtain ⟨l, k, t⟩ := r
          have hm : t.dep ≤ rs.dep ∧ t.size + 1 ≤ rs.size := Rows.mem_le hr
          simp only [Talk.dep, Talk.size] at ht hz
          show DG cb _ _ (.tuple [.str l, k.D, t.D]) _
          wtm_at "w"
          refine ⟨⟨t, by have := hm.1; omega, by have := hm.2; omega⟩, rfl, fun w hw => ?_⟩
          subst hw
          wtm_at "w"
          rfl
        · refine ⟨_, .inl rfl, ?_⟩
          wtm_at "w"
          show W.d (.tuple [.str _, .tuple (rs.toL.map Row.dD)]) = W.d (.tuple [.str _, .tuple rs.dual.D])
          rw [Rows.dual_D]
          rfl)
end
section
variable {P : Program} {w : World} {K : PySem.W.Frag} {mg : Str → Option Value} {base : Heap} {C : Addr} (E : Fs w K mg C)
include E
theorem ok_head : FnG P w K mg base "head" 6 (SpD C (fun z : { z : Tab × Talk // TA z.1 z.2 } => [.tb z.1.1.D, .d z.1.2.D]) (fun z r => r = .d (headM z.1.1 z.1.2).D)) := by
  obtain ⟨f, fd, F, hm⟩ := E.d_head
  refine (st_head F (fun _ => rfl) fun c I t => ?_).g hm F.kp
  have ok := I.ok
  have hN := I.N
  have hG := I.G
  have hL := I.Lo
  have f1 := I.fn (sp := fun C => SpD C _ _) (ok_is_reference E) (by omega)
  have f2 := I.fn (sp := fun C => SpD C _ _) (ok_dual E 3) (by omega)
  obtain ⟨⟨tab, t⟩, hA⟩ := t
  simp only at hA
  show DSs c [some (.r (.tb tab.D)), some (.r (.d t.D)), none] (_ :: _) _
  wtm_at "w"
  refine ds_while ok (fun env => ∃ tk b, env = [some (.r (.tb tab.D)), some (.r (.d (Talk.D tk))), some (.r (.d (.bool b)))] ∧ TA tab tk ∧ (if b then (headM tab tk).dual else headM tab tk) = headM tab t) (fun env => match env with
    | [_, some (.r (.d d)), _] => rkD tab d
    | _ => 0) ⟨t, false, rfl, hA, rfl⟩ ?_
  rintro env ⟨tk, b, rfl, hT, hh⟩
  wtm_at "w"
  refine ⟨tk, rfl, fun w hw => ?_⟩
  subst hw
  refine ⟨_, rfl, ?_⟩
  cases tk with
  | fin =>
    cases b <;> (
      wtm_at "w"
      first
        | (refine ⟨⟨.fin, by decide⟩, rfl, fun w hw => ?_⟩; subst hw; wtm_at "w"; exact congrArg (fun t : Talk => W.d t.D) hh)
        | exact congrArg (fun t : Talk => W.d t.D) hh)
  | act s rs =>
    cases b <;> (
      wtm_at "w"
      first
        | (refine ⟨⟨.act s rs, by have := hT.dep; have := hT.size; omega⟩, rfl, fun w hw => ?_⟩; subst hw; wtm_at "w"; exact congrArg (fun t : Talk => W.d t.D) hh)
        | exact congrArg (fun t : Talk => W.d t.D) hh)
  | ref b2 n =>
    obtain ⟨t2, e2, hT2, hr⟩ := hT.get
    rw [headM_ref hA.ok e2] at hh
    have hl := Tab.lkp n tab
    rw [e2] at hl
    have hrk : rkD tab t2.D < tab.rank n := by rw [rkD_D]; exact hr
    cases b2 <;> cases b <;> (
      show (_ → DSs _ [_, some (.r (.d (.tuple [.str _, .str n]))), _] _ _) ∧ _
      wtm_at "w"
      refine ⟨.d t2.D, ix_tb hl, ?_⟩
      wtm_at "w"
      refine ⟨⟨t2, _, rfl, hT2, ?_⟩, hrk⟩
      first | exact hh | (rw [← hh]; exact (Talk.dual_dual _).symm) | (rw [← hh]; rfl))
end
section
variable {P : Program} {w : World} {K : PySem.W.Frag} {mg : Str → Option Value} {base : Heap} {C : Addr} (E : Fs w K mg C)
include E
theorem ok_row_of : FnG P w K mg base "row_of" 1 (SpD C (fun z : { z : Talk × Str // z.1.isRef = false } => [.d z.1.1.D, .d (.str z.1.2)]) (fun z r => r = .d (rowD z.1.2 (z.1.1.rows.find z.1.2)))) := by
  obtain ⟨f, fd, F, hm⟩ := E.d_row_of
  refine (st_row_of F (fun _ => rfl) fun c I t => ?_).g hm F.kp
  have ok := I.ok
  have hN := I.N
  have hL := I.Lo
  obtain ⟨⟨t, x⟩, ht⟩ := t
  cases t with
  | ref b n => cases ht
  | fin =>
    show DSs c [some (.r (.d Talk.fin.D)), some (.r (.d (.str x))), none] (_ :: _) _
    wtm_at "w"
    rfl
  | act s rs =>
    cases s <;> (
      show DSs c [some (.r (.d (Talk.act _ rs).D)), some (.r (.d (.str x))), none] (_ :: _) _
      wtm_at "w"
      refine ds_forT ok ?_
      wtm_at "w"
      refine ⟨fun rest env => ∃ (r : Rows) (o : Option Slot), rest = r.D ∧ env = [some (.r (.d (Talk.act _ rs).D)), some (.r (.d (.str x))), o] ∧ rs.find x = r.find x, ⟨rs, none, rfl, rfl, rfl⟩, ?_, ?_⟩
      · rintro d rest env _ ⟨r, o, e1, rfl, e3⟩
        cases r with
        | nil => cases e1
        | cons l k t r =>
          cases e1
          wtm_at "w"
          · rename_i h
            rw [eqv_str] at h
            have h := of_decide_eq_true h
            subst h
            show W.d _ = W.d (rowD l (rs.find l))
            rw [e3]
            simp [Rows.find, rowD]
          · rename_i h
            rw [eqv_str] at h
            have h := of_decide_eq_false h
            exact ⟨r, _, rfl, rfl, by rw [e3]; simp [Rows.find, h]⟩
      · rintro env ⟨r, o, e1, rfl, e3⟩
        cases r with
        | cons l k t r => cases e1
        | nil =>
          wtm_at "w"
          show W.d _ = W.d (rowD x (rs.find x))
          rw [e3]
          rfl)
theorem ok_is_talk_kind : FnG P w K mg base "is_talk_kind" 1 (SpD C (fun k : Kind => [.d k.D]) (fun k r => r = .d (.bool k.isRef))) := by
  obtain ⟨f, fd, F, hm⟩ := E.d_is_talk_kind
  refine (st_is_talk_kind F (fun _ => rfl) fun c I k => ?_).g hm F.kp
  have ok := I.ok
  have hN := I.N
  have hG := I.G
  have bi := I.bi E.bi
  show DSs c [some (.r (.d k.D))] (_ :: _) _
  wtm_at "w"
  cases k <;> rfl
theorem ok_asked_rows : FnG P w K mg base "asked_rows" 1 (SpD C (fun z : Bool × Rows × Rows => [.d (Talk.act z.1 z.2.1).D, .d (Talk.act z.1 z.2.2).D]) (fun z r => r = .d (.tuple (if z.1 then z.2.2 else z.2.1).D))) := by
  obtain ⟨f, fd, F, hm⟩ := E.d_asked_rows
  refine (st_asked_rows F (fun _ => rfl) fun c I k => ?_).g hm F.kp
  have ok := I.ok
  have hN := I.N
  obtain ⟨s, r1, r2⟩ := k
  cases s <;> (
    show DSs c [some (.r (.d (Talk.act _ r1).D)), some (.r (.d (Talk.act _ r2).D))] (_ :: _) _
    wtm_at "w"
    rfl)
/-- two rows of the same label -/
structure RR (s : Bool) (r1 r2 : Rows) (x : Str) where
  k1 : Kind
  t1 : Talk
  k2 : Kind
  t2 : Talk
  e1 : r1.find x = some (k1, t1)
  e2 : r2.find x = some (k2, t2)
theorem ok_payload_pair : FnG P w K mg base "payload_pair" 2 (SpD C (fun z : (s : Bool) × (r1 : Rows) × (r2 : Rows) × (x : Str) × RR s r1 r2 x => [.d (Talk.act z.1 z.2.1).D, .d (Talk.act z.1 z.2.2.1).D, .d (.str z.2.2.2.1)]) (fun z r => r = .d (if z.1 then .tuple [z.2.2.2.2.k2.D, z.2.2.2.2.k1.D] else .tuple [z.2.2.2.2.k1.D, z.2.2.2.2.k2.D]))) := by
  obtain ⟨f, fd, F, hm⟩ := E.d_payload_pair
  refine (st_payload_pair F (fun _ => rfl) fun c I k => ?_).g hm F.kp
  have ok := I.ok
  have hN := I.N
  have hG := I.G
  have hL := I.Lo
  have f1 := I.fn (sp := fun C => SpD C _ _) (ok_row_of E) (by omega)
  obtain ⟨s, r1, r2, x, k1, t1, k2, t2, e1, e2⟩ := k
  cases s <;> (
    show DSs c [some (.r (.d (Talk.act _ r1).D)), some (.r (.d (Talk.act _ r2).D)), some (.r (.d (.str x))), none, none] (_ :: _) _
    wtm_at "w"
    refine ⟨⟨(.act _ r1, x), rfl⟩, rfl, fun w hw => ?_⟩
    simp only [Talk.rows, e1, rowD] at hw
    subst hw
    wtm_at "w"
    refine ⟨⟨(.act _ r2, x), rfl⟩, rfl, fun w hw => ?_⟩
    simp only [Talk.rows, e2, rowD] at hw
    subst hw
    wtm_at "w"
    rfl)
end
section
variable {P : Program} {w : World} {K : PySem.W.Frag} {mg : Str → Option Value} {base : Heap} {C : Addr} (E : Fs w K mg C)
include E
/-- two heads that act alike, and a label -/
structure RA where
  tab : Tab
  s : Bool
  r1 : Rows
  r2 : Rows
  x : Str
  h1 : TU tab (.act s r1)
  h2 : TU tab (.act s r2)
def RA.ar (z : RA) : List W := [.d (Talk.act z.s z.r1).D, .d (Talk.act z.s z.r2).D, .d (.str z.x)]
theorem ok_reason_at : FnG P w K mg base "reason_at" 3 (SpD C RA.ar (fun z r => if fineM z.s z.r1 z.r2 z.x then r = .d .none else ∃ a b, r = .d (.tuple [.str a, .str b]))) := by
  obtain ⟨f, fd, F, hm⟩ := E.d_reason_at
  refine (st_reason_at F (fun _ => rfl) fun c I k => ?_).g hm F.kp
  have ok := I.ok
  have hN := I.N
  have hG := I.G
  have hL := I.Lo
  have f1 := I.fn (sp := fun C => SpD C _ _) (ok_row_of E) (by omega)
  have f2 := I.fn (sp := fun C => SpD C _ _) (ok_payload_pair E) (by omega)
  have f3 := I.fn (sp := fun C => SpD C _ _) (ok_is_talk_kind E) (by omega)
  obtain ⟨tab, s, r1, r2, x, h1, h2⟩ := k
  show DSs c [some (.r (.d (Talk.act _ r1).D)), some (.r (.d (Talk.act _ r2).D)), some (.r (.d (.str x))), none, none] (_ :: _) _
  wtm_at "w"
  refine ⟨⟨(.act s r1, x), rfl⟩, rfl, fun w hw => ?_⟩
  simp only [Talk.rows] at hw
  rcases e1 : r1.find x with _ | ⟨k1, t1⟩
  · simp only [e1, rowD] at hw
    subst hw
    wtm_at "w"
    simp only [fineM, e1]
    exact ⟨_, _, rfl⟩
  · simp only [e1, rowD] at hw
    subst hw
    wtm_at "w"
    refine ⟨⟨(.act s r2, x), rfl⟩, rfl, fun w hw => ?_⟩
    simp only [Talk.rows] at hw
    rcases e2 : r2.find x with _ | ⟨k2, t2⟩
    · simp only [e2, rowD] at hw
      subst hw
      wtm_at "w"
      simp only [fineM, e1, e2]
      exact ⟨_, _, rfl⟩
    · simp only [e2, rowD] at hw
      subst hw
      wtm_at "w"
      refine ⟨⟨s, r1, r2, x, k1, t1, k2, t2, e1, e2⟩, rfl, fun w hw => ?_⟩
      have g1 := Kind.shaped h1.ok (h1.next e1).2
      have g2 := Kind.shaped h1.ok (h2.next e2).2
      have o1 : eqOk k1.D k2.D = true := by simp only [eqOk, g1, g2, Bool.and_self, Bool.or_true]
      have o2 : eqOk k2.D k1.D = true := by simp only [eqOk, g1, g2, Bool.and_self, Bool.or_true]
      cases s
      all_goals
        simp only [Bool.false_eq_true, if_false, if_true] at hw
        subst hw
        wtm_at "w"
        all_goals repeat' (first
          | (refine ⟨_, rfl, fun w hw => ?_⟩; subst hw; wtm_at "w")
          | fail "no")
        all_goals simp_all only [fineM, Bool.not_eq_true', Bool.not_eq_false', Bool.false_eq_true, Bool.or_false, Bool.or_true, Bool.true_or, Bool.false_or, Bool.and_true, Bool.and_false, Bool.true_and, Bool.false_and, if_true, if_false, ite_true, ite_false]
        all_goals first | rfl | exact ⟨_, _, rfl⟩ | trace_state
end
def reachD (s : Bool) (k1 : Kind) (t1 : Talk) (k2 : Kind) (t2 : Talk) : List PD :=
  (if (if s then k2 else k1).isRef then [.tuple [.str "payload", (if s then k2 else k1).D, (if s then k1 else k2).D]] else []) ++ [.tuple [.str "next", t1.D, t2.D]]
section
variable {P : Program} {w : World} {K : PySem.W.Frag} {mg : Str → Option Value} {base : Heap} {C : Addr} (E : Fs w K mg C)
include E
theorem ok_reached_pairs : FnG P w K mg base "reached_pairs" 3 (SpF C (fun z : (s : Bool) × (r1 : Rows) × (r2 : Rows) × (x : Str) × RR s r1 r2 x => [.d (Talk.act z.1 z.2.1).D, .d (Talk.act z.1 z.2.2.1).D, .d (.str z.2.2.2.1)]) (fun z r => r = reachD z.1 z.2.2.2.2.k1 z.2.2.2.2.t1 z.2.2.2.2.k2 z.2.2.2.2.t2)) := by
  obtain ⟨f, fd, F, hm⟩ := E.d_reached_pairs
  refine (st_reached_pairs F (fun _ => rfl) fun c I k => ?_).g hm F.kp
  have ok := I.ok
  have hN := I.N
  have hG := I.G
  have hL := I.Lo
  have f1 := I.fn (sp := fun C => SpD C _ _) (ok_row_of E) (by omega)
  have f2 := I.fn (sp := fun C => SpD C _ _) (ok_payload_pair E) (by omega)
  have f3 := I.fn (sp := fun C => SpD C _ _) (ok_is_talk_kind E) (by omega)
  obtain ⟨s, r1, r2, x, k1, t1, k2, t2, e1, e2⟩ := k
  show DSs c [some (.r (.d (Talk.act _ r1).D)), some (.r (.d (Talk.act _ r2).D)), some (.r (.d (.str x))), none, none, none] (_ :: _) _
  wtm_at "w"
  refine ⟨⟨s, r1, r2, x, k1, t1, k2, t2, e1, e2⟩, rfl, fun w hw => ?_⟩
  cases s
  all_goals
    simp only [Bool.false_eq_true, if_false, if_true] at hw
    subst hw
    wtm_at "w"
    refine ⟨_, rfl, fun w hw => ?_⟩
    subst hw
    wtm_at "w"
    all_goals
      refine ⟨⟨(.act _ r1, x), rfl⟩, rfl, fun w hw => ?_⟩
      simp only [Talk.rows, e1, rowD] at hw
      subst hw
      wtm_at "w"
      refine ⟨⟨(.act _ r2, x), rfl⟩, rfl, fun w hw => ?_⟩
      simp only [Talk.rows, e2, rowD] at hw
      subst hw
      wtm_at "w"
    all_goals
      rename_i h
      simp only [reachD, h, Bool.false_eq_true, if_false, if_true]
      first | rfl | trace_state
end
def reachL (s : Bool) (k1 : Kind) (t1 : Talk) (k2 : Kind) (t2 : Talk) : List (Str × Talk × Talk) :=
  (if (if s then k2 else k1).isRef then [(("payload" : Str), if s then k2.T else k1.T, if s then k1.T else k2.T)] else []) ++ [(("next" : Str), t1, t2)]
def tripD (q : Str × Talk × Talk) : PD := .tuple [.str q.1, q.2.1.D, q.2.2.D]
theorem fine_both {s : Bool} {r1 r2 : Rows} {x : Str} {k1 k2 : Kind} {t1 t2 : Talk} (e1 : r1.find x = some (k1, t1)) (e2 : r2.find x = some (k2, t2)) (h : fineM s r1 r2 x = true) (hr : (if s then k2 else k1).isRef = true) : k1.isRef = true ∧ k2.isRef = true := by
  simp only [fineM, e1, e2] at h
  cases s <;> cases k1 <;> cases k2 <;> simp_all [Kind.isRef, Kind.D, PyData.eqv]
theorem Kind.T_D {k : Kind} (h : k.isRef = true) : k.T.D = k.D := by cases k <;> first | rfl | cases h
theorem reachD_L {s : Bool} {r1 r2 : Rows} {x : Str} {k1 k2 : Kind} {t1 t2 : Talk} (e1 : r1.find x = some (k1, t1)) (e2 : r2.find x = some (k2, t2)) (h : fineM s r1 r2 x = true) : reachD s k1 t1 k2 t2 = (reachL s k1 t1 k2 t2).map tripD := by
  unfold reachD reachL
  by_cases hr : (if s then k2 else k1).isRef = true
  · obtain ⟨g1, g2⟩ := fine_both e1 e2 h hr
    rw [if_pos hr, if_pos hr]
    cases s <;> simp [tripD, Kind.T_D g1, Kind.T_D g2]
  · rw [if_neg hr, if_neg hr]
    rfl
theorem newP_L {tab : Tab} {s : Bool} {r1 r2 : Rows} {x : Str} {k1 k2 : Kind} {t1 t2 : Talk} (e1 : r1.find x = some (k1, t1)) (e2 : r2.find x = some (k2, t2)) : newP tab s r1 r2 x = (reachL s k1 t1 k2 t2).map fun q => (headM tab q.2.1, headM tab q.2.2) := by
  unfold newP reachL
  simp only [e1, e2]
  by_cases hr : (if s then k2 else k1).isRef = true
  · rw [if_pos hr, if_pos hr]
    cases s <;> simp
  · rw [if_neg hr, if_neg hr]
    rfl
theorem reachL_ok {tab : Tab} {s : Bool} {r1 r2 : Rows} {x : Str} {k1 k2 : Kind} {t1 t2 : Talk} (h1 : TU tab (.act s r1)) (h2 : TU tab (.act s r2)) (e1 : r1.find x = some (k1, t1)) (e2 : r2.find x = some (k2, t2)) (h : fineM s r1 r2 x = true) : ∀ q ∈ reachL s k1 t1 k2 t2, TU tab q.2.1 ∧ TU tab q.2.2 := by
  obtain ⟨a1, a2⟩ := h1.next e1
  obtain ⟨b1, b2⟩ := h2.next e2
  intro q hq
  unfold reachL at hq
  by_cases hr : (if s then k2 else k1).isRef = true
  · obtain ⟨g1, g2⟩ := fine_both e1 e2 h hr
    have c1 := (TU.kind h1.ok a2 g1).1
    have c2 := (TU.kind h1.ok b2 g2).1
    rw [if_pos hr] at hq
    rcases List.mem_append.mp hq with z | z
    · obtain rfl := List.mem_singleton.mp z
      cases s
      · exact ⟨c1, c2⟩
      · exact ⟨c2, c1⟩
    · obtain rfl := List.mem_singleton.mp z
      exact ⟨a1, b1⟩
  · rw [if_neg hr] at hq
    obtain rfl := List.mem_singleton.mp hq
    exact ⟨a1, b1⟩
/-- the pairs that wait, each with its path -/
abbrev Wl := List (Pr × PD)
def Wl.w (wl : Wl) : List PD := wl.map fun q => .tuple [q.1.1.D, q.1.2.D, q.2]
def Wl.s (wl : Wl) : List PD := wl.map fun q => q.1.D
def Wl.p (wl : Wl) : List Pr := wl.map (·.1)
structure WlOk (tab : Tab) (wl : Wl) : Prop where
  ok : WsOk tab wl.p
  path : ∀ (j : Nat) q, wl[j]? = some q → ∃ es, q.2 = .tuple es ∧ immAll es = true ∧ es.length ≤ j
theorem WlOk.len {tab : Tab} (ok : tab.Ok) {wl : Wl} (h : WlOk tab wl) : wl.length ≤ 22500 := by
  have := h.ok.len ok
  rwa [Wl.p, List.length_map] at this
theorem Wl.s_p (wl : Wl) : wl.s = wl.p.map Pr.D := by rw [Wl.s, Wl.p, List.map_map]; rfl
theorem WlOk.shaped {tab : Tab} {wl : Wl} (h : WlOk tab wl) : SeqAt.shaped (.list wl.s) = true := by
  rw [Wl.s_p]
  have : ∀ l : List Pr, (∀ p ∈ l, TU tab p.1 ∧ TU tab p.2) → PyData.canLayAll0 (l.map Pr.D) = true ∧ PyData.depthAll (l.map Pr.D) ≤ 8 := by
    intro l
    induction l with
    | nil => intro _; exact ⟨by simp [PyData.canLayAll0], by simp [PyData.depthAll]⟩
    | cons p l ih =>
      intro hl
      obtain ⟨g1, g2⟩ := ih fun q hq => hl q (List.mem_cons_of_mem _ hq)
      obtain ⟨g3, g4⟩ := hl p List.mem_cons_self
      obtain ⟨g5, g6⟩ := Pr.lay g3 g4
      refine ⟨by simp only [List.map_cons, PyData.canLayAll0, g5, g1]; rfl, ?_⟩
      simp only [List.map_cons, PyData.depthAll]
      omega
  obtain ⟨g1, g2⟩ := this wl.p fun p hp => ⟨(h.ok.u p hp).t1, (h.ok.u p hp).t2⟩
  refine shaped_of ?_ ?_
  · simp only [PyData.canLay0]; exact g1
  · simp only [PyData.depth]; omega
theorem in_tup {es ds : List PD} (h1 : SeqAt.shaped (.tuple es) = true) (h2 : SeqAt.shaped (.list ds) = true) : inW (.d (.tuple es)) (.d (.list ds)) = some (ds.any fun z => PyData.eqv z (.tuple es)) := by
  show (if SeqAt.shaped (.tuple es) = true ∧ SeqAt.shaped (.list ds) = true then some _ else none) = _
  rw [if_pos ⟨h1, h2⟩]
theorem WlOk.add {tab : Tab} {wl : Wl} {p : Pr} {es : List PD} (h : WlOk tab wl) (hm : memP wl.p p = false) (hp : PrOk tab p) (hi : immAll es = true) (hl : es.length ≤ wl.length) : WlOk tab (wl ++ [(p, .tuple es)]) := by
  have e : Wl.p (wl ++ [(p, .tuple es)]) = wl.p ++ [p] := by rw [Wl.p, List.map_append]; rfl
  refine ⟨?_, fun j q hq => ?_⟩
  · have := h.ok.add1 hp
    rw [hm] at this
    rw [e]
    exact this
  · by_cases hj : j < wl.length
    · rw [List.getElem?_append_left hj] at hq
      exact h.path j q hq
    · rw [List.getElem?_append_right (by omega)] at hq
      have : j - wl.length = 0 := by
        cases hz : j - wl.length with
        | zero => rfl
        | succ n => rw [hz] at hq; cases hq
      rw [this] at hq
      cases hq
      exact ⟨es, rfl, hi, by omega⟩
theorem add_tup {ds es : List PD} (h : ds.length + es.length ≤ 1000000) : addW (.d (.tuple ds)) (.d (.tuple es)) = some (.d (.tuple (ds ++ es))) := by
  show (if ds.length + es.length ≤ 1000000 then _ else _) = _
  rw [if_pos h]
theorem fine_find {s : Bool} {r1 r2 : Rows} {x : Str} (h : fineM s r1 r2 x = true) : ∃ k1 t1 k2 t2, r1.find x = some (k1, t1) ∧ r2.find x = some (k2, t2) := by
  unfold fineM at h
  cases e1 : r1.find x with
  | none => rw [e1] at h; cases h
  | some p =>
    cases e2 : r2.find x with
    | none => rw [e1, e2] at h; cases h
    | some q => exact ⟨_, _, _, _, rfl, rfl⟩
theorem immAll_app {ds es : List PD} : immAll (ds ++ es) = (immAll ds && immAll es) := by
  induction ds with
  | nil => simp [immAll]
  | cons d ds ih => simp [immAll, ih, Bool.and_assoc]
theorem Wl.s_snoc {wl : Wl} {p : Pr} {d : PD} : Wl.s (wl ++ [(p, d)]) = wl.s ++ [p.D] := by rw [Wl.s, List.map_append]; rfl
theorem Wl.w_snoc {wl : Wl} {p : Pr} {d : PD} : Wl.w (wl ++ [(p, d)]) = wl.w ++ [.tuple [p.1.D, p.2.D, d]] := by rw [Wl.w, List.map_append]; rfl
theorem Wl.p_snoc {wl : Wl} {p : Pr} {d : PD} : Wl.p (wl ++ [(p, d)]) = wl.p ++ [p] := by rw [Wl.p, List.map_append]; rfl
structure WA where
  tab : Tab
  one : Talk
  two : Talk
  h1 : TU tab one
  h2 : TU tab two
section
variable {P : Program} {w : World} {K : PySem.W.Frag} {mg : Str → Option Value} {base : Heap} {C : Addr} (E : Fs w K mg C)
include E
theorem ok_wrong_path : FnG P w K mg base "wrong_path" 7 (SpD C (fun z : WA => [.tb z.tab.D, .d z.one.D, .d z.two.D]) (fun z r => ∃ b, Rch z.tab [(headM z.tab z.one, headM z.tab z.two)] 0 b ∧ if b then r = .d .none else ∃ ds, r = .d (.tuple ds))) := by
  obtain ⟨f, fd, F, hm⟩ := E.d_wrong_path
  refine (st_wrong_path F (fun _ => rfl) fun c I k => ?_).g hm F.kp
  have ok := I.ok
  have hN := I.N
  have hG := I.G
  have hL := I.Lo
  have bi := I.bi E.bi
  have f1 := I.fn (sp := fun C => SpD C _ _) (ok_head E) (by omega)
  have f2 := I.fn (sp := fun C => SpD C _ _) (ok_asked_rows E) (by omega)
  have f3 := I.fn (sp := fun C => SpD C _ _) (ok_reason_at E) (by omega)
  have f4 := I.fn (sp := fun C => SpF C _ _) (ok_reached_pairs E) (by omega)
  obtain ⟨tab, one, two, h1, h2⟩ := k
  show DSs c [some (.r (.tb tab.D)), some (.r (.d one.D)), some (.r (.d two.D)), none, none, none, none, none, none, none, none, none, none, none, none] (_ :: _) _
  wtm_at "w"
  refine ⟨⟨(tab, one), h1.toTA⟩, rfl, fun w hw => ?_⟩
  subst hw
  wtm_at "w"
  refine ⟨⟨(tab, two), h2.toTA⟩, rfl, fun w hw => ?_⟩
  subst hw
  wtm_at "w"
  refine ds_while ok (fun env => ∃ (wl : Wl) (i : Nat) (o1 o2 o3 o4 o5 o6 o7 o8 o9 : Option Slot), env = [some (.r (.tb tab.D)), some (.r (.d one.D)), some (.r (.d two.D)), some (.l wl.w), some (.l wl.s), some (.r (.d (.int i))), o1, o2, o3, o4, o5, o6, o7, o8, o9] ∧ WlOk tab wl ∧ ∀ b, Rch tab wl.p i b → Rch tab [(headM tab one, headM tab two)] 0 b) (fun env => match env with
    | _ :: _ :: _ :: _ :: _ :: some (.r (.d (.int i))) :: _ => 30000 - i.toNat
    | _ => 0) ⟨[((headM tab one, headM tab two), .tuple [])], 0, none, none, none, none, none, none, none, none, none, rfl, ⟨⟨by simp [Wl.p], ?_⟩, ?_⟩, fun b h => h⟩ ?_
  · intro p hp
    obtain rfl : p = (headM tab one, headM tab two) := by simpa [Wl.p] using hp
    exact PrOk.mk' h1 h2
  · intro j q hq
    cases j with
    | zero => cases hq; exact ⟨[], rfl, by simp [immAll], Nat.zero_le _⟩
    | succ j => cases hq
  rintro env ⟨wl, i, o1, o2, o3, o4, o5, o6, o7, o8, o9, rfl, hW, hR⟩
  have hlen := hW.len h1.ok
  wtm_at "w"
  · rename_i h
    have hi : i < wl.length := by
      have := of_decide_eq_true h
      simp only [Wl.w, List.length_map] at this
      omega
    obtain ⟨⟨⟨a, b⟩, pa⟩, hq⟩ : ∃ q, wl[i]? = some q := ⟨wl[i], List.getElem?_eq_getElem hi⟩
    obtain ⟨es, rfl, hes, hel⟩ := hW.path i _ hq
    have hat : atI wl.w (i : Int) = some (.tuple [a.D, b.D, .tuple es]) := by
      unfold atI Wl.w
      rw [List.length_map]
      have : ixN wl.length (i : Int) = some i := by
        unfold ixN
        simp
        omega
      rw [this]
      show (wl.map _)[i]? = _
      rw [List.getElem?_map, hq]
      rfl
    have hp := hW.ok.u (a, b) (List.mem_map.mpr ⟨_, List.mem_of_getElem? hq, rfl⟩)
    have hqp : wl.p[i]? = some (a, b) := by rw [Wl.p, List.getElem?_map, hq]; rfl
    obtain ⟨ta, tb, _, _, na, nb⟩ := hp
    refine ⟨_, _, rfl, hat, ?_⟩
    cases a with
    | ref _ _ => cases na
    | fin =>
      cases b with
      | ref _ _ => cases nb
      | fin =>
        wtm_at "w"
        exact ⟨⟨wl, i + 1, _, _, _, _, _, _, _, _, _, rfl, hW, fun b h => hR b (.step hqp rfl h)⟩, by simp; omega⟩
      | act s rs =>
        cases s <;> (
          wtm_at "w"
          exact ⟨false, hR _ (.bad hqp rfl), _, rfl⟩)
    | act s r1 =>
      cases b with
      | ref _ _ => cases nb
      | fin =>
        cases s <;> (
          wtm_at "w"
          exact ⟨false, hR _ (.bad hqp rfl), _, rfl⟩)
      | act s' r2 =>
        cases s <;> cases s'
        all_goals first
          | (wtm_at "w"
             exact ⟨false, hR _ (.bad hqp rfl), _, rfl⟩)
          | skip
        all_goals
          wtm_at "w"
          refine ds_forT ok ?_
          wtm_at "w"
          refine ⟨(_, r1, r2), rfl, fun w hw => ?_⟩
          subst hw
          wtm_at "w"
        · refine ⟨fun rest env => ∃ (r' : Rows) (wl' : Wl) (q6 q10 q11 q12 q13 q14 : Option Slot), rest = r'.D ∧ env = [some (.r (.tb tab.D)), some (.r (.d one.D)), some (.r (.d two.D)), some (.l wl'.w), some (.l wl'.s), some (.r (.d (.int ((i : Int) + 1)))), q6, some (.r (.d (Talk.act false r1).D)), some (.r (.d (Talk.act false r2).D)), some (.r (.d (.tuple es))), q10, q11, q12, q13, q14] ∧ WlOk tab wl' ∧ i + 1 ≤ wl'.length ∧ stepM tab wl.p (Talk.act false r1, Talk.act false r2) = goRows tab false r1 r2 r' wl'.p, ⟨r1, wl, _, _, _, _, _, _, rfl, rfl, hW, hi, rfl⟩, ?_, ?_⟩
          · rintro d rest env _ ⟨r', wl', q6, q10, q11, q12, q13, q14, er, rfl, hW', hi', hgo⟩
            cases r' with
            | nil => cases er
            | cons l k t r'' =>
              cases er
              wtm_at "w"
              refine ⟨⟨tab, false, r1, r2, l, ta, tb⟩, rfl, fun w hw => ?_⟩
              by_cases hf : fineM false r1 r2 l = true
              · rw [if_pos hf] at hw
                subst hw
                wtm_at "w"
                refine ds_forL ok ?_
                wtm_at "w"
                obtain ⟨k1, t1, k2, t2, e1, e2⟩ := fine_find hf
                refine ⟨⟨false, r1, r2, l, k1, t1, k2, t2, e1, e2⟩, rfl, fun w hw => ?_⟩
                subst hw
                wtm_at "w"
                rw [show reachD false k1 t1 k2 t2 = _ from reachD_L e1 e2 hf]
                refine ⟨fun rest env => ∃ (L : List (Str × Talk × Talk)) (wl2 : Wl) (q11 q12 q13 q14 : Option Slot), rest = L.map tripD ∧ env = [some (.r (.tb tab.D)), some (.r (.d one.D)), some (.r (.d two.D)), some (.l wl2.w), some (.l wl2.s), some (.r (.d (.int ((i : Int) + 1)))), some (.r (.d (.tuple [.str l, k.D, t.D]))), some (.r (.d (Talk.act false r1).D)), some (.r (.d (Talk.act false r2).D)), some (.r (.d (.tuple es))), some (.r (.d .none)), q11, q12, q13, q14] ∧ WlOk tab wl2 ∧ i + 1 ≤ wl2.length ∧ (∀ q ∈ L, TU tab q.2.1 ∧ TU tab q.2.2) ∧ addP wl'.p (newP tab false r1 r2 l) = addP wl2.p (L.map fun q => (headM tab q.2.1, headM tab q.2.2)), ⟨reachL false k1 t1 k2 t2, wl', _, _, _, _, rfl, rfl, hW', hi', reachL_ok ta tb e1 e2 hf, by rw [newP_L e1 e2]⟩, ?_, ?_⟩
                · rintro d rest env _ ⟨L, wl2, q11, q12, q13, q14, er, rfl, hW2, hi2, hL2, hadd⟩
                  cases L with
                  | nil => cases er
                  | cons q L =>
                    cases er
                    obtain ⟨wy, lt, rt⟩ := q
                    obtain ⟨g1, g2⟩ := hL2 _ List.mem_cons_self
                    show DG c _ _ (.tuple [.str wy, lt.D, rt.D]) _
                    wtm_at "w"
                    refine ⟨⟨(tab, lt), g1.toTA⟩, rfl, fun w hw => ?_⟩
                    subst hw
                    wtm_at "w"
                    refine ⟨⟨(tab, rt), g2.toTA⟩, rfl, fun w hw => ?_⟩
                    subst hw
                    have hpo := PrOk.mk' g1 g2
                    obtain ⟨y1, y2⟩ := Pr.lay hpo.t1 hpo.t2
                    wtm_at "w"
                    refine ⟨shaped_of y1 (Nat.le_trans y2 (by decide)), hW2.shaped, ?_⟩
                    have hmem : (wl2.s.any fun z => PyData.eqv z (Pr.D (headM tab lt, headM tab rt))) = memP wl2.p (headM tab lt, headM tab rt) := by rw [Wl.s_p]; rfl
                    show ((!(wl2.s.any fun z => PyData.eqv z (Pr.D (headM tab lt, headM tab rt)))) = true → _) ∧ ((!(wl2.s.any fun z => PyData.eqv z (Pr.D (headM tab lt, headM tab rt)))) = false → _)
                    rw [hmem]
                    simp only [List.map_cons, addP] at hadd
                    have hl2 := hW2.len h1.ok
                    have hls : wl2.s.length < 1000000 := by rw [Wl.s, List.length_map]; omega
                    have hlw : wl2.w.length < 1000000 := by rw [Wl.w, List.length_map]; omega
                    cases hm2 : memP wl2.p (headM tab lt, headM tab rt) with
                    | true =>
                      rw [hm2] at hadd
                      wtm_at "w"
                      exact ⟨L, wl2, _, _, _, _, rfl, rfl, hW2, hi2, fun q hq => hL2 q (List.mem_cons_of_mem _ hq), hadd⟩
                    | false =>
                      rw [hm2] at hadd
                      wtm_at "w"
                      refine ⟨_, add_tup (by simp only [List.length_cons, List.length_nil]; omega), ?_⟩
                      wtm_at "w"
                      refine ⟨L, wl2 ++ [((headM tab lt, headM tab rt), .tuple (es ++ [.tuple [.str l, .str wy]]))], some (.r (.d (.str wy))), some (.r (.d lt.D)), some (.r (.d rt.D)), some (.r (.d (.tuple [(headM tab lt).D, (headM tab rt).D]))), rfl, ?_, hW2.add hm2 hpo (by rw [immAll_app, hes]; simp [immAll, K49.imm]) (by rw [List.length_append]; simp only [List.length_cons, List.length_nil]; omega), by rw [List.length_append]; omega, fun q hq => hL2 q (List.mem_cons_of_mem _ hq), ?_⟩
                      · rw [Wl.w_snoc, Wl.s_snoc]
                        rfl
                      · rw [Wl.p_snoc]
                        exact hadd
                · rintro env ⟨L, wl2, q11, q12, q13, q14, er, rfl, hW2, hi2, hL2, hadd⟩
                  cases L with
                  | cons q L => cases er
                  | nil =>
                    refine ⟨r'', wl2, _, _, _, _, _, _, rfl, rfl, hW2, hi2, ?_⟩
                    rw [hgo]
                    simp only [goRows, hf, if_true]
                    rw [hadd]
                    rfl
              · rw [if_neg hf] at hw
                obtain ⟨x1, x2, rfl⟩ := hw
                wtm_at "w"
                refine ⟨false, hR _ (.bad hqp ?_), _, rfl⟩
                rw [hgo]
                simp only [goRows, hf, if_false]
                rfl
          · rintro env ⟨r', wl', q6, q10, q11, q12, q13, q14, er, rfl, hW', hi', hgo⟩
            cases r' with
            | cons l k t r'' => cases er
            | nil =>
              exact ⟨⟨wl', i + 1, _, _, _, _, _, _, _, _, _, rfl, hW', fun b h => hR b (.step hqp hgo h)⟩, by simp; omega⟩
        · refine ⟨fun rest env => ∃ (r' : Rows) (wl' : Wl) (q6 q10 q11 q12 q13 q14 : Option Slot), rest = r'.D ∧ env = [some (.r (.tb tab.D)), some (.r (.d one.D)), some (.r (.d two.D)), some (.l wl'.w), some (.l wl'.s), some (.r (.d (.int ((i : Int) + 1)))), q6, some (.r (.d (Talk.act true r1).D)), some (.r (.d (Talk.act true r2).D)), some (.r (.d (.tuple es))), q10, q11, q12, q13, q14] ∧ WlOk tab wl' ∧ i + 1 ≤ wl'.length ∧ stepM tab wl.p (Talk.act true r1, Talk.act true r2) = goRows tab true r1 r2 r' wl'.p, ⟨r2, wl, _, _, _, _, _, _, rfl, rfl, hW, hi, rfl⟩, ?_, ?_⟩
          · rintro d rest env _ ⟨r', wl', q6, q10, q11, q12, q13, q14, er, rfl, hW', hi', hgo⟩
            cases r' with
            | nil => cases er
            | cons l k t r'' =>
              cases er
              wtm_at "w"
              refine ⟨⟨tab, true, r1, r2, l, ta, tb⟩, rfl, fun w hw => ?_⟩
              by_cases hf : fineM true r1 r2 l = true
              · rw [if_pos hf] at hw
                subst hw
                wtm_at "w"
                refine ds_forL ok ?_
                wtm_at "w"
                obtain ⟨k1, t1, k2, t2, e1, e2⟩ := fine_find hf
                refine ⟨⟨true, r1, r2, l, k1, t1, k2, t2, e1, e2⟩, rfl, fun w hw => ?_⟩
                subst hw
                wtm_at "w"
                rw [show reachD true k1 t1 k2 t2 = _ from reachD_L e1 e2 hf]
                refine ⟨fun rest env => ∃ (L : List (Str × Talk × Talk)) (wl2 : Wl) (q11 q12 q13 q14 : Option Slot), rest = L.map tripD ∧ env = [some (.r (.tb tab.D)), some (.r (.d one.D)), some (.r (.d two.D)), some (.l wl2.w), some (.l wl2.s), some (.r (.d (.int ((i : Int) + 1)))), some (.r (.d (.tuple [.str l, k.D, t.D]))), some (.r (.d (Talk.act true r1).D)), some (.r (.d (Talk.act true r2).D)), some (.r (.d (.tuple es))), some (.r (.d .none)), q11, q12, q13, q14] ∧ WlOk tab wl2 ∧ i + 1 ≤ wl2.length ∧ (∀ q ∈ L, TU tab q.2.1 ∧ TU tab q.2.2) ∧ addP wl'.p (newP tab true r1 r2 l) = addP wl2.p (L.map fun q => (headM tab q.2.1, headM tab q.2.2)), ⟨reachL true k1 t1 k2 t2, wl', _, _, _, _, rfl, rfl, hW', hi', reachL_ok ta tb e1 e2 hf, by rw [newP_L e1 e2]⟩, ?_, ?_⟩
                · rintro d rest env _ ⟨L, wl2, q11, q12, q13, q14, er, rfl, hW2, hi2, hL2, hadd⟩
                  cases L with
                  | nil => cases er
                  | cons q L =>
                    cases er
                    obtain ⟨wy, lt, rt⟩ := q
                    obtain ⟨g1, g2⟩ := hL2 _ List.mem_cons_self
                    show DG c _ _ (.tuple [.str wy, lt.D, rt.D]) _
                    wtm_at "w"
                    refine ⟨⟨(tab, lt), g1.toTA⟩, rfl, fun w hw => ?_⟩
                    subst hw
                    wtm_at "w"
                    refine ⟨⟨(tab, rt), g2.toTA⟩, rfl, fun w hw => ?_⟩
                    subst hw
                    have hpo := PrOk.mk' g1 g2
                    obtain ⟨y1, y2⟩ := Pr.lay hpo.t1 hpo.t2
                    wtm_at "w"
                    refine ⟨shaped_of y1 (Nat.le_trans y2 (by decide)), hW2.shaped, ?_⟩
                    have hmem : (wl2.s.any fun z => PyData.eqv z (Pr.D (headM tab lt, headM tab rt))) = memP wl2.p (headM tab lt, headM tab rt) := by rw [Wl.s_p]; rfl
                    show ((!(wl2.s.any fun z => PyData.eqv z (Pr.D (headM tab lt, headM tab rt)))) = true → _) ∧ ((!(wl2.s.any fun z => PyData.eqv z (Pr.D (headM tab lt, headM tab rt)))) = false → _)
                    rw [hmem]
                    simp only [List.map_cons, addP] at hadd
                    have hl2 := hW2.len h1.ok
                    have hls : wl2.s.length < 1000000 := by rw [Wl.s, List.length_map]; omega
                    have hlw : wl2.w.length < 1000000 := by rw [Wl.w, List.length_map]; omega
                    cases hm2 : memP wl2.p (headM tab lt, headM tab rt) with
                    | true =>
                      rw [hm2] at hadd
                      wtm_at "w"
                      exact ⟨L, wl2, _, _, _, _, rfl, rfl, hW2, hi2, fun q hq => hL2 q (List.mem_cons_of_mem _ hq), hadd⟩
                    | false =>
                      rw [hm2] at hadd
                      wtm_at "w"
                      refine ⟨_, add_tup (by simp only [List.length_cons, List.length_nil]; omega), ?_⟩
                      wtm_at "w"
                      refine ⟨L, wl2 ++ [((headM tab lt, headM tab rt), .tuple (es ++ [.tuple [.str l, .str wy]]))], some (.r (.d (.str wy))), some (.r (.d lt.D)), some (.r (.d rt.D)), some (.r (.d (.tuple [(headM tab lt).D, (headM tab rt).D]))), rfl, ?_, hW2.add hm2 hpo (by rw [immAll_app, hes]; simp [immAll, K49.imm]) (by rw [List.length_append]; simp only [List.length_cons, List.length_nil]; omega), by rw [List.length_append]; omega, fun q hq => hL2 q (List.mem_cons_of_mem _ hq), ?_⟩
                      · rw [Wl.w_snoc, Wl.s_snoc]
                        rfl
                      · rw [Wl.p_snoc]
                        exact hadd
                · rintro env ⟨L, wl2, q11, q12, q13, q14, er, rfl, hW2, hi2, hL2, hadd⟩
                  cases L with
                  | cons q L => cases er
                  | nil =>
                    refine ⟨r'', wl2, _, _, _, _, _, _, rfl, rfl, hW2, hi2, ?_⟩
                    rw [hgo]
                    simp only [goRows, hf, if_true]
                    rw [hadd]
                    rfl
              · rw [if_neg hf] at hw
                obtain ⟨x1, x2, rfl⟩ := hw
                wtm_at "w"
                refine ⟨false, hR _ (.bad hqp ?_), _, rfl⟩
                rw [hgo]
                simp only [goRows, hf, if_false]
                rfl
          · rintro env ⟨r', wl', q6, q10, q11, q12, q13, q14, er, rfl, hW', hi', hgo⟩
            cases r' with
            | cons l k t r'' => cases er
            | nil =>
              exact ⟨⟨wl', i + 1, _, _, _, _, _, _, _, _, _, rfl, hW', fun b h => hR b (.step hqp hgo h)⟩, by simp; omega⟩
  · rename_i h
    refine ⟨true, hR _ (.done ?_), rfl⟩
    have := of_decide_eq_false h
    simp only [Wl.w, List.length_map] at this
    rw [Wl.p, List.length_map]
    omega
end
section
variable {P : Program} {w : World} {K : PySem.W.Frag} {mg : Str → Option Value} {base : Heap} {C : Addr} (E : Fs w K mg C)
include E
/-- whether one is a subtalk of two -/
def Sub (tab : Tab) (one two : Talk) (b : Bool) : Prop := Rch tab [(headM tab one, headM tab two)] 0 b
theorem ok_is_subtalk : FnG P w K mg base "is_subtalk" 8 (SpD C (fun z : WA => [.tb z.tab.D, .d z.one.D, .d z.two.D]) (fun z r => ∃ b, Sub z.tab z.one z.two b ∧ r = .d (.bool b))) := by
  obtain ⟨f, fd, F, hm⟩ := E.d_is_subtalk
  refine (st_is_subtalk F (fun _ => rfl) fun c I k => ?_).g hm F.kp
  have ok := I.ok
  have hN := I.N
  have hG := I.G
  have f1 := I.fn (sp := fun C => SpD C _ _) (ok_wrong_path E) (by omega)
  show DSs c [some (.r (.tb k.tab.D)), some (.r (.d k.one.D)), some (.r (.d k.two.D))] (_ :: _) _
  wtm_at "w"
  refine ⟨k, rfl, fun w hw => ?_⟩
  obtain ⟨b, hb, hw⟩ := hw
  cases b with
  | true =>
    rw [if_pos rfl] at hw
    subst hw
    exact ⟨true, hb, rfl⟩
  | false =>
    rw [if_neg (by decide)] at hw
    obtain ⟨ds, rfl⟩ := hw
    exact ⟨false, hb, rfl⟩
/-! ### whole numbers, ends, kinds -/
def wholeM (d : PD) : Bool := isIntD d && !isBoolD d
theorem wholeM_int {d : PD} (h : wholeM d = true) : ∃ i, d = .int i := by cases d <;> first | exact ⟨_, rfl⟩ | cases h
theorem ok_is_whole : FnG P w K mg base "is_whole" 1 (SpD C (fun d : PD => [.d d]) (fun d r => r = .d (.bool (wholeM d)))) := by
  obtain ⟨f, fd, F, hm⟩ := E.d_is_whole
  refine (st_is_whole F (fun _ => rfl) fun c I d => ?_).g hm F.kp
  have ok := I.ok
  have hN := I.N
  have hG := I.G
  have bi := I.bi E.bi
  show DSs c [some (.r (.d d))] (_ :: _) _
  wtm_at "w"
  all_goals
    rename_i h
    show _ = W.d (.bool (wholeM d))
    simp [wholeM, h]
theorem ok__law_whole : FnG P w K mg base "_law_whole" 1 (SpD C (fun d : PD => [.d d]) (fun d r => r = .d (.bool (wholeM d)))) := by
  obtain ⟨f, fd, F, hm⟩ := E.d__law_whole
  refine (st__law_whole F (fun _ => rfl) fun c I d => ?_).g hm F.kp
  have ok := I.ok
  have hN := I.N
  have hG := I.G
  have bi := I.bi E.bi
  show DSs c [some (.r (.d d))] (_ :: _) _
  wtm_at "w"
  all_goals
    rename_i h
    show _ = W.d (.bool (wholeM d))
    simp [wholeM, h]
/-- an end: ('end', conversation, side) -/
def endI : PD → PD → Option (Int × Int)
  | .int a, .int b => some (a, b)
  | _, _ => none
def end3 : List PD → Option (Int × Int)
  | [a, b, c] => match a with
    | .str t => if t = "end" then endI b c else none
    | _ => none
  | _ => none
def endP : PD → Option (Int × Int)
  | .tuple ds => end3 ds
  | _ => none
end
theorem endP_len {a b c e : PD} {ds : List PD} : endP (.tuple (a :: b :: c :: e :: ds)) = none := rfl
theorem eqv_int {i j : Int} : PyData.eqv (.int i) (.int j) = decide (i = j) := by
  simp only [PyData.eqv]
  by_cases h : i = j
  · subst h; simp
  · rw [decide_eq_false h]; exact beq_eq_false_iff_ne.mpr h
theorem endP_of {t : Str} {b c : PD} : (endP (.tuple [.str t, b, c])).isSome = (decide (t = "end") && wholeM b && wholeM c) := by
  show (if t = "end" then endI b c else none).isSome = _
  by_cases h : t = "end"
  · rw [if_pos h, decide_eq_true h]
    cases b <;> cases c <;> rfl
  · rw [if_neg h, decide_eq_false h]
    rfl
section
variable {P : Program} {w : World} {K : PySem.W.Frag} {mg : Str → Option Value} {base : Heap} {C : Addr} (E : Fs w K mg C)
include E
theorem ok_is_end : FnG P w K mg base "is_end" 2 (SpD C (fun d : PD => [.d d]) (fun d r => r = .d (.bool (endP d).isSome))) := by
  obtain ⟨f, fd, F, hm⟩ := E.d_is_end
  refine (st_is_end F (fun _ => rfl) fun c I d => ?_).g hm F.kp
  have ok := I.ok
  have hN := I.N
  have hG := I.G
  have bi := I.bi E.bi
  have f1 := I.fn (sp := fun C => SpD C _ _) (ok_is_whole E) (by omega)
  cases d with
  | tuple ds =>
    rcases ds with _ | ⟨a, _ | ⟨b, _ | ⟨e, _ | ⟨g, ds⟩⟩⟩⟩
    · show DSs c [some (.r (.d (.tuple [])))] (_ :: _) _
      wtm_at "w"
      rfl
    · show DSs c [some (.r (.d (.tuple [a])))] (_ :: _) _
      wtm_at "w"
      rfl
    · show DSs c [some (.r (.d (.tuple [a, b])))] (_ :: _) _
      wtm_at "w"
      rfl
    · cases a with
      | str t =>
        show DSs c [some (.r (.d (.tuple [.str t, b, e])))] (_ :: _) _
        wtm_at "w"
        · rename_i h
          refine ⟨b, rfl, fun w hw => ?_⟩
          subst hw
          wtm_at "w"
          · rename_i h2
            refine ⟨e, rfl, fun w hw => ?_⟩
            subst hw
            show W.d _ = W.d (.bool (endP (.tuple [.str t, b, e])).isSome)
            rw [eqv_str] at h
            rw [endP_of, h, h2]
            rfl
          · rename_i h2
            show W.d _ = W.d (.bool (endP (.tuple [.str t, b, e])).isSome)
            rw [endP_of, h2]
            simp
        · rename_i h
          show W.d _ = W.d (.bool (endP (.tuple [.str t, b, e])).isSome)
          rw [eqv_str] at h
          rw [endP_of, h]
          rfl
      | _ =>
        show DSs c [some (.r (.d (.tuple [_, b, e])))] (_ :: _) _
        wtm_at "w"
        rfl
    · show DSs c [some (.r (.d (.tuple (a :: b :: e :: g :: ds))))] (_ :: _) _
      wtm_at "w"
      rfl
  | _ =>
    show DSs c [some (.r (.d _))] (_ :: _) _
    wtm_at "w"
    rfl
end
def kind2 (tab : Tab) : List PD → Bool
  | [a, b] => match a with
    | .str t => match b with
      | .str n => (decide ("name" = t) || decide ("dual" = t)) && (tab.get n).isSome
      | _ => false
    | _ => false
  | _ => false
def kindB (tab : Tab) : PD → Bool
  | .tuple ds => kind2 tab ds
  | _ => false
section
variable {P : Program} {w : World} {K : PySem.W.Frag} {mg : Str → Option Value} {base : Heap} {C : Addr} (E : Fs w K mg C)
include E
theorem ok_is_kind : FnG P w K mg base "is_kind" 1 (SpD C (fun z : Tab × PD => [.tb z.1.D, .d z.2]) (fun z r => r = .d (.bool (kindB z.1 z.2)))) := by
  obtain ⟨f, fd, F, hm⟩ := E.d_is_kind
  refine (st_is_kind F (fun _ => rfl) fun c I z => ?_).g hm F.kp
  have ok := I.ok
  have hN := I.N
  have hG := I.G
  have bi := I.bi E.bi
  obtain ⟨tab, d⟩ := z
  cases d with
  | tuple ds =>
    rcases ds with _ | ⟨a, _ | ⟨b, _ | ⟨g, ds⟩⟩⟩
    · show DSs c [some (.r (.tb tab.D)), some (.r (.d (.tuple [])))] (_ :: _) _
      wtm_at "w"
      rfl
    · show DSs c [some (.r (.tb tab.D)), some (.r (.d (.tuple [a])))] (_ :: _) _
      wtm_at "w"
      rfl
    · cases a with
      | str t =>
        cases b with
        | str n =>
          have hl := Tab.lkp n tab
          show DSs c [some (.r (.tb tab.D)), some (.r (.d (.tuple [.str t, .str n])))] (_ :: _) _
          wtm_at "w"
          all_goals
            rename_i h
            show W.d (.bool _) = W.d (.bool ((decide ("name" = t) || decide ("dual" = t)) && (tab.get n).isSome))
            first
              | (rw [hl, Option.isSome_map]; simp at h; simp [h])
              | (simp at h; simp [h])
              | trace_state
        | _ =>
          show DSs c [some (.r (.tb tab.D)), some (.r (.d (.tuple [.str t, _])))] (_ :: _) _
          wtm_at "w"
          rfl
      | _ =>
        show DSs c [some (.r (.tb tab.D)), some (.r (.d (.tuple [_, b])))] (_ :: _) _
        wtm_at "w"
        rfl
    · show DSs c [some (.r (.tb tab.D)), some (.r (.d (.tuple (a :: b :: g :: ds))))] (_ :: _) _
      wtm_at "w"
      rfl
  | _ =>
    show DSs c [some (.r (.tb tab.D)), some (.r (.d _))] (_ :: _) _
    wtm_at "w"
    rfl
end
abbrev Msg := Str × PD
def Msg.D (m : Msg) : PD := .tuple [.str m.1, m.2]
def endsM (ms : List Msg) : List Pl := ms.filterMap fun m => endP m.2
theorem endP_shape {d : PD} {p : Pl} (h : endP d = some p) : d = .tuple [.str "end", .int p.1, .int p.2] := by
  cases d with
  | tuple ds =>
    rcases ds with _ | ⟨a, _ | ⟨b, _ | ⟨c, _ | ⟨e, ds⟩⟩⟩⟩
    · cases h
    · cases h
    · cases h
    · cases a with
      | str t =>
        replace h : (if t = "end" then endI b c else none) = some p := h
        split at h
        · rename_i ht
          subst ht
          cases b <;> cases c <;> first | cases h; rfl | cases h
        · cases h
      | _ => cases h
    · cases h
  | _ => cases h
section
variable {P : Program} {w : World} {K : PySem.W.Frag} {mg : Str → Option Value} {base : Heap} {C : Addr} (E : Fs w K mg C)
include E
theorem ok_ends_of : FnG P w K mg base "ends_of" 3 (SpF C (fun ms : { ms : List Msg // ms.length ≤ 1000 } => [.d (.list (ms.1.map Msg.D))]) (fun ms r => r = (endsM ms.1).map pd)) := by
  obtain ⟨f, fd, F, hm⟩ := E.d_ends_of
  refine (st_ends_of F (fun _ => rfl) fun c I ms => ?_).g hm F.kp
  have ok := I.ok
  have hN := I.N
  have hG := I.G
  obtain ⟨ms, hz⟩ := ms
  show DSs c [some (.r (.d (.list (ms.map Msg.D)))), none, none] (_ :: _) _
  refine dss_one (ds_retF (lc_D .l I ["label", "payload"] ["label", "payload"] ["is_end"] [("label", 1), ("payload", 2)] (by decide +kernel) (by wtm_at "k.mk") fun cb Ib => ?_))
  have okb := Ib.ok
  have hNb := Ib.N
  have hGb := Ib.G
  have hLb := Ib.Lo
  have f1 := Ib.fn (sp := fun C => SpD C _ _) (ok_is_end E) (by omega)
  wtm_at "w"
  refine ⟨fun rest acc => ∃ zs : List Msg, rest = zs.map Msg.D ∧ zs.length + acc.length ≤ 1000 ∧ acc ++ (endsM zs).map pd = (endsM ms).map pd, ⟨ms, rfl, by simpa using hz, rfl⟩, ?_, ?_⟩
  · rintro d rest acc _ ⟨zs, er, hl, hacc⟩
    cases zs with
    | nil => cases er
    | cons m zs =>
      cases er
      obtain ⟨l, q⟩ := m
      show DG cb _ _ (.tuple [.str l, q]) _
      wtm_at "w"
      show DT cb _ _ _
      wtm_at "w"
      refine ⟨q, rfl, fun w hw => ?_⟩
      subst hw
      refine ⟨_, rfl, fun h => ?_, fun h => ?_⟩
      · obtain ⟨p, hp⟩ := Option.isSome_iff_exists.mp h
        obtain rfl := endP_shape hp
        refine ⟨by simp only [List.length_cons] at hl; omega, ?_⟩
        wtm_at "w"
        refine ⟨zs, rfl, by simp only [List.length_cons, List.length_append, List.length_nil] at hl ⊢; omega, ?_⟩
        rw [← hacc]
        simp only [endsM, List.filterMap_cons, hp]
        simp [pd]
      · have hn : endP q = none := by cases e : endP q with
          | none => rfl
          | some p => rw [e] at h; cases h
        refine ⟨zs, rfl, by simp only [List.length_cons] at hl; omega, ?_⟩
        rw [← hacc]
        simp only [endsM, List.filterMap_cons, hn]
  · rintro acc ⟨zs, er, hl, hacc⟩
    cases zs with
    | cons m zs => cases er
    | nil =>
      show acc = (endsM ms).map pd
      rw [← hacc]
      simp [endsM]
end
/-! ## Mirror: the Ledger -/
section
variable {κ β γ : Type} [DecidableEq κ]
def gt (kvs : List (κ × β)) (k : κ) : Option β := (kvs.find? fun p => decide (p.1 = k)).map (·.2)
theorem gt_map (g : β → γ) (k : κ) : ∀ kvs : List (κ × β), gt (kvs.map fun p => (p.1, g p.2)) k = (gt kvs k).map g
  | [] => rfl
  | p :: r => by
    have ih := gt_map g k r
    unfold gt at ih ⊢
    rw [List.map_cons, List.find?_cons, List.find?_cons]
    by_cases h : p.1 = k
    · simp [h]
    · simp only [decide_eq_false h]
      exact ih
theorem pt_mapv (g : β → γ) (k : κ) (d : β) (kvs : List (κ × β)) : pt (kvs.map fun p => (p.1, g p.2)) k (g d) = (pt kvs k d).map fun p => (p.1, g p.2) := by
  have ha : ((kvs.map fun p => (p.1, g p.2)).any fun kv => decide (kv.1 = k)) = (kvs.any fun kv => decide (kv.1 = k)) := by
    rw [List.any_map]; rfl
  unfold pt
  rw [ha]
  split
  · rw [List.map_map, List.map_map]
    refine List.map_congr_left fun q _ => ?_
    show (if q.1 = k then (q.1, g d) else (q.1, g q.2)) = ((if q.1 = k then (q.1, d) else q).1, g (if q.1 = k then (q.1, d) else q).2)
    split <;> rfl
  · rw [List.map_append] <;> rfl
end
theorem lkp_gt {κ : Type} [DecidableEq κ] (kvs : List (κ × PD)) (k : κ) : lkp kvs k = gt kvs k := rfl
/-- talks, marks, mailboxes, finished actors, owed sides -/
structure Lc where
  t : List (Pl × Talk)
  m : List (Pl × Str)
  b : List (Pl × List Msg)
  f : List Bool
  o : List Pl
def boxD (ms : List Msg) : PD := .list (ms.map Msg.D)
def Lc.D (l : Lc) : Co := ⟨l.t.map fun p => (p.1, p.2.D), l.m.map fun p => (p.1, .str p.2), l.b.map fun p => (p.1, boxD p.2), l.f.map .bool, l.o.map pd⟩
structure Lg where
  tab : Tab
  n : Nat
  c : Lc
def Lg.D (L : Lg) : Led := ⟨L.tab.D, L.n, L.c.D⟩
theorem Lc.gt_t (l : Lc) (p : Pl) : lkp l.D.t p = (gt l.t p).map Talk.D := gt_map Talk.D p l.t
theorem Lc.gt_m (l : Lc) (p : Pl) : lkp l.D.m p = (gt l.m p).map PyData.str := gt_map PyData.str p l.m
theorem Lc.gt_b (l : Lc) (p : Pl) : lkp l.D.b p = (gt l.b p).map boxD := gt_map boxD p l.b
/-- an actor that runs -/
def runM (f : List Bool) (d : PD) : Bool := match d with
  | .int i => decide (0 ≤ i) && decide (i < f.length) && !(f.getD i.toNat true)
  | _ => false
def intM (n : Nat) : PD → Bool
  | .int i => decide (i = n)
  | _ => false
def openM (L : Lg) (a b c k : PD) : Bool := runM L.c.f a && intM L.c.f.length b && intM L.n c && kindB L.tab k
theorem intM_no {n : Nat} {d : PD} (h : wholeM d = false) : intM n d = false := by cases d <;> first | rfl | cases h
section
variable {P : Program} {w : World} {K : PySem.W.Frag} {mg : Str → Option Value} {base : Heap} {C : Addr} (E : Fs w K mg C)
include E
theorem ok_is_running : MeG P w K mg base C "_is_running" 2 (SpD C (fun z : Lg × PD => [.lg z.1.D, .d z.2]) (fun z r => r = .d (.bool (runM z.1.c.f z.2)))) := by
  obtain ⟨f, fd, F, hm⟩ := E.m__is_running
  refine (st_Ledger__is_running F (fun _ => rfl) fun c I z => ?_).m hm
  have ok := I.ok
  have hN := I.N
  have hG := I.G
  have bi := I.bi E.bi
  have ld := I.ld E.ld
  have f1 := I.fn (sp := fun C => SpD C _ _) (ok_is_whole E) (by omega)
  obtain ⟨L, d⟩ := z
  show DSs c [some (.r (.lg L.D)), some (.r (.d d))] (_ :: _) _
  wtm_at "w"
  refine ⟨d, rfl, fun w hw => ?_⟩
  subst hw
  wtm_at "w"
  · rename_i h
    obtain ⟨i, rfl⟩ := wholeM_int E h
    refine ⟨0, i, rfl, rfl, fun h1 => ?_, fun h1 => ?_⟩
    · wtm_at "w"
      · rename_i h2
        have h1' := of_decide_eq_true h1
        have h2' := of_decide_eq_true h2
        have hl : (L.D.c.f).length = L.c.f.length := by show (L.c.f.map PyData.bool).length = _; rw [List.length_map]
        rw [hl] at h2'
        obtain ⟨k, rfl⟩ := Int.eq_ofNat_of_zero_le h1'
        have hk : k < L.c.f.length := by omega
        have hat : atI L.D.c.f (k : Int) = some (.bool (L.c.f[k])) := by
          unfold atI
          rw [hl]
          have : ixN L.c.f.length (k : Int) = some k := by unfold ixN; simp; omega
          rw [this]
          show (L.c.f.map PyData.bool)[k]? = _
          rw [List.getElem?_map, List.getElem?_eq_getElem hk]
          rfl
        refine ⟨.d (.bool (L.c.f[k])), by show (atI L.D.c.f (k : Int)).map W.d = _; rw [hat]; rfl, ?_⟩
        wtm_at "w"
        show W.d (.bool (!L.c.f[k])) = W.d (.bool (decide (0 ≤ (k : Int)) && decide ((k : Int) < L.c.f.length) && !(L.c.f.getD (k : Int).toNat true)))
        simp [hk]
      · rename_i h2
        have h2' := of_decide_eq_false h2
        have hl : (L.D.c.f).length = L.c.f.length := by show (L.c.f.map PyData.bool).length = _; rw [List.length_map]
        rw [hl] at h2'
        show W.d (.bool false) = W.d (.bool (decide (0 ≤ i) && decide (i < L.c.f.length) && _))
        rw [decide_eq_false h2']
        simp
    · have h1' := of_decide_eq_false h1
      wtm_at "w"
      show W.d (.bool false) = W.d (.bool (decide (0 ≤ i) && decide (i < L.c.f.length) && _))
      rw [decide_eq_false h1']
      simp
  · rename_i h
    show W.d (.bool false) = W.d (.bool (runM L.c.f d))
    cases d <;> first | rfl | cases h
end
section
variable {P : Program} {w : World} {K : PySem.W.Frag} {mg : Str → Option Value} {base : Heap} {C : Addr} (E : Fs w K mg C)
include E
theorem ok_allows_open : MeG P w K mg base C "_allows_open" 3 (SpD C (fun z : Lg × PD × PD × PD × PD × PD => [.lg z.1.D, .d (.tuple [z.2.1, z.2.2.1, z.2.2.2.1, z.2.2.2.2.1, z.2.2.2.2.2])]) (fun z r => r = .d (.bool (openM z.1 z.2.2.1 z.2.2.2.1 z.2.2.2.2.1 z.2.2.2.2.2)))) := by
  obtain ⟨f, fd, F, hm⟩ := E.m__allows_open
  refine (st_Ledger__allows_open F (fun _ => rfl) fun c I z => ?_).m hm
  have ok := I.ok
  have hN := I.N
  have hG := I.G
  have bi := I.bi E.bi
  have ld := I.ld E.ld
  have f1 := I.fn (sp := fun C => SpD C _ _) (ok_is_whole E) (by omega)
  have f2 := I.me (sp := fun C => SpD C _ _) (ok_is_running E) (by omega)
  have f3 := I.fn (sp := fun C => SpD C _ _) (ok_is_kind E) (by omega)
  obtain ⟨L, x, a, b, d, k⟩ := z
  show DSs c [some (.r (.lg L.D)), some (.r (.d (.tuple [x, a, b, d, k])))] (_ :: _) _
  wtm_at "w"
  refine ⟨(L, a), rfl, fun w hw => ?_⟩
  cases h1 : runM L.c.f a with
  | false =>
    obtain rfl : w = .d (.bool false) := hw.trans (congrArg (fun b => W.d (.bool b)) h1)
    wtm_at "w"
    show W.d (.bool false) = W.d (.bool (runM L.c.f a && _ && _ && _))
    rw [h1]; rfl
  | true =>
    obtain rfl : w = .d (.bool true) := hw.trans (congrArg (fun b => W.d (.bool b)) h1)
    wtm_at "w"
    refine ⟨b, rfl, fun w hw => ?_⟩
    cases h2 : wholeM b with
    | false =>
      obtain rfl : w = .d (.bool false) := hw.trans (congrArg (fun b => W.d (.bool b)) h2)
      wtm_at "w"
      show W.d (.bool false) = W.d (.bool (runM L.c.f a && intM L.c.f.length b && _ && _))
      rw [intM_no h2]; simp
    | true =>
      obtain rfl : w = .d (.bool true) := hw.trans (congrArg (fun b => W.d (.bool b)) h2)
      wtm_at "w"
      refine ⟨d, rfl, fun w hw => ?_⟩
      cases h3 : wholeM d with
      | false =>
        obtain rfl : w = .d (.bool false) := hw.trans (congrArg (fun b => W.d (.bool b)) h3)
        wtm_at "w"
        show W.d (.bool false) = W.d (.bool (runM L.c.f a && _ && intM L.n d && _))
        rw [intM_no h3]; simp
      | true =>
        obtain rfl : w = .d (.bool true) := hw.trans (congrArg (fun b => W.d (.bool b)) h3)
        obtain ⟨i, rfl⟩ := wholeM_int E h2
        obtain ⟨j, rfl⟩ := wholeM_int E h3
        have hl : (L.D.c.f).length = L.c.f.length := by show (L.c.f.map PyData.bool).length = _; rw [List.length_map]
        wtm_at "w"
        · rename_i h
          rw [eqv_int, hl] at h
          show W.d (.bool false) = W.d (.bool (runM L.c.f a && decide (i = (L.c.f.length : Int)) && _ && _))
          simp at h
          simp [h]
        · rename_i h
          rw [eqv_int] at h
          show W.d (.bool false) = W.d (.bool (runM L.c.f a && _ && decide (j = (L.n : Int)) && _))
          have h' : ¬ j = (L.n : Int) := of_decide_eq_false ((Bool.not_eq_true' _).mp h)
          simp [h']
        · rename_i g h
          rw [eqv_int, hl] at g
          rw [eqv_int] at h
          have g' : i = (L.c.f.length : Int) := by simpa using g
          have h' : j = (L.n : Int) := of_decide_eq_true ((Bool.not_eq_false' _).mp h)
          refine ⟨(L.tab, k), rfl, fun w hw => ?_⟩
          subst hw
          show W.d (.bool (kindB L.tab k)) = W.d (.bool (runM L.c.f a && decide (i = (L.c.f.length : Int)) && decide (j = (L.n : Int)) && kindB L.tab k))
          rw [h1]
          simp [g', h']
end
theorem Msg.D_len {m : Msg} : m.D = .tuple [.str m.1, m.2] := rfl
/-- payloads as they are said -/
def payB : PD → Bool
  | .none => true
  | .int _ => true
  | .bool _ => true
  | .tuple ds => (end3 ds).isSome
  | _ => false
def oldM (box : List Msg) (l p : PD) : Bool := match box with
  | [] => false
  | m :: _ => (isBoolD m.2 == isBoolD p) && ((endP m.2).isSome == (endP p).isSome) && PyData.eqv (.str m.1) l && PyData.eqv m.2 p
theorem ix_l0 {x : PD} {xs : List PD} : ixW (.d (.list (x :: xs))) (.d (.int 0)) = some (.d x) := by
  have : atI (x :: xs) 0 = some x := by
    unfold atI
    have : ixN (x :: xs).length 0 = some 0 := by unfold ixN; simp
    rw [this]
    rfl
  show (atI (x :: xs) 0).map W.d = _
  rw [this]; rfl
section
variable {P : Program} {w : World} {K : PySem.W.Frag} {mg : Str → Option Value} {base : Heap} {C : Addr} (E : Fs w K mg C)
include E
structure OA where
  L : Lg
  l : Str
  p : PD
  i : Int
  j : Int
  box : List Msg
  hb : gt L.c.b (i, j) = some box
  hp : SeqAt.shaped p = true
  hm : ∀ m ∈ box, SeqAt.shaped m.2 = true
theorem ok_is_oldest : MeG P w K mg base C "_is_oldest" 3 (SpD C (fun z : OA => [.lg z.L.D, .d (.str z.l), .d z.p, .d (pd (z.i, z.j))]) (fun z r => r = .d (.bool (oldM z.box (.str z.l) z.p)))) := by
  obtain ⟨f, fd, F, hm⟩ := E.m__is_oldest
  refine (st_Ledger__is_oldest F (fun _ => rfl) fun c I z => ?_).m hm
  have ok := I.ok
  have hN := I.N
  have hG := I.G
  have hL := I.Lo
  have bi := I.bi E.bi
  have ld := I.ld E.ld
  have f1 := I.fn (sp := fun C => SpD C _ _) (ok_is_end E) (by omega)
  obtain ⟨L, l, p, i, j, box, hb, hp, hms⟩ := z
  have hbx : lkp L.D.c.b (i, j) = some (boxD box) := by rw [show L.D.c.b = L.c.D.b from rfl, Lc.gt_b, hb]; rfl
  show DSs c [some (.r (.lg L.D)), some (.r (.d (.str l))), some (.r (.d p)), some (.r (.d (.tuple [.int i, .int j]))), none] (_ :: _) _
  wtm_at "w"
  refine ⟨_, ix_dt hbx, ?_⟩
  cases box with
  | nil =>
    wtm_at "w"
    rfl
  | cons m box =>
    obtain ⟨ml, mp⟩ := m
    wtm_at "w"
    refine ⟨_, ix_dt hbx, ?_⟩
    wtm_at "w"
    refine ⟨.d (.tuple [.str ml, mp]), ix_l0, ?_⟩
    have hmp : SeqAt.shaped mp = true := hms _ List.mem_cons_self
    have o1 : eqOk mp p = true := by simp only [eqOk, hmp, hp, Bool.and_self, Bool.or_true]
    have o2 : eqOk (.bool (isBoolD mp)) (.bool (isBoolD p)) = true := by cases isBoolD mp <;> cases isBoolD p <;> decide +kernel
    have o3 : eqOk (.bool (endP mp).isSome) (.bool (endP p).isSome) = true := by cases (endP mp).isSome <;> cases (endP p).isSome <;> decide +kernel
    wtm_at "w"
    · rename_i h
      have h' : (isBoolD mp == isBoolD p) = false := (Bool.not_eq_true' _).mp h
      show W.d (.bool false) = W.d (.bool ((isBoolD mp == isBoolD p) && _ && _ && _))
      rw [h']; rfl
    · rename_i h
      have h' : (isBoolD mp == isBoolD p) = true := (Bool.not_eq_false' _).mp h
      refine ⟨mp, rfl, fun w hw => ?_⟩
      subst hw
      wtm_at "w"
      refine ⟨p, rfl, fun w hw => ?_⟩
      subst hw
      wtm_at "w"
      · rename_i g
        have g' : ((endP mp).isSome == (endP p).isSome) = false := (Bool.not_eq_true' _).mp g
        show W.d (.bool false) = W.d (.bool (_ && ((endP mp).isSome == (endP p).isSome) && _ && _))
        rw [g']; simp
      · rename_i g y
        have g' : ((endP mp).isSome == (endP p).isSome) = true := (Bool.not_eq_false' _).mp g
        show W.d (.bool _) = W.d (.bool ((isBoolD mp == isBoolD p) && ((endP mp).isSome == (endP p).isSome) && PyData.eqv (.str ml) (.str l) && PyData.eqv mp p))
        rw [h', g', y]; rfl
      · rename_i g y
        show W.d (.bool _) = W.d (.bool (_ && _ && PyData.eqv (.str ml) (.str l) && PyData.eqv mp p))
        rw [y]; simp
end
def isNonD : PD → Bool
  | .none => true
  | _ => false
def rangeM : PD → Bool
  | .int i => decide (0 ≤ i) && decide (i ≤ 65535)
  | _ => false
/-- what _is_payload answers -/
def PayR (L : Lg) (k : Kind) (p : PD) (pl : Pl) (b : Bool) : Prop := match k with
  | .non => b = isNonD p
  | .int => b = rangeM p
  | .bool => b = isBoolD p
  | .ref x n => match endP p with
    | none => b = false
    | some g => if gt L.c.m g = some "open" ∧ g ≠ pl then ∃ t, gt L.c.t g = some t ∧ Sub L.tab t (.ref x n) b else b = false
structure PA where
  L : Lg
  k : Kind
  p : PD
  i : Int
  j : Int
  ok : L.tab.Ok
  hk : k.ok L.tab = true
  ht : ∀ g, gt L.c.m g ≠ none → ∃ t, gt L.c.t g = some t ∧ TU L.tab t
section
variable {P : Program} {w : World} {K : PySem.W.Frag} {mg : Str → Option Value} {base : Heap} {C : Addr} (E : Fs w K mg C)
include E
theorem ok_is_payload : MeG P w K mg base C "_is_payload" 9 (SpD C (fun z : PA => [.lg z.L.D, .d z.k.D, .d z.p, .d (pd (z.i, z.j))]) (fun z r => ∃ b, PayR z.L z.k z.p (z.i, z.j) b ∧ r = .d (.bool b))) := by
  obtain ⟨f, fd, F, hm⟩ := E.m__is_payload
  refine (st_Ledger__is_payload F (fun _ => rfl) fun c I z => ?_).m hm
  have ok := I.ok
  have hN := I.N
  have hG := I.G
  have hL := I.Lo
  have bi := I.bi E.bi
  have ld := I.ld E.ld
  obtain ⟨u, hu1, hu2⟩ := E.most
  have hmost : c.mg "MOST" = some u := by rw [I.mg]; exact hu1
  have f1 := I.fn (sp := fun C => SpD C _ _) (ok_is_end E) (by omega)
  have f2 := I.fn (sp := fun C => SpD C _ _) (ok_is_whole E) (by omega)
  have f3 := I.fn (sp := fun C => SpD C _ _) (ok_is_subtalk E) (by omega)
  obtain ⟨L, k, p, i, j, hok, hk, ht⟩ := z
  cases k with
  | non =>
    show DSs c [some (.r (.lg L.D)), some (.r (.d .none)), some (.r (.d p)), some (.r (.d (.tuple [.int i, .int j]))), none] (_ :: _) _
    wtm_at "w"
    exact ⟨_, rfl, by cases p <;> rfl⟩
  | bool =>
    show DSs c [some (.r (.lg L.D)), some (.r (.d (.str "bool"))), some (.r (.d p)), some (.r (.d (.tuple [.int i, .int j]))), none] (_ :: _) _
    wtm_at "w"
    exact ⟨_, rfl, rfl⟩
  | int =>
    show DSs c [some (.r (.lg L.D)), some (.r (.d (.str "int"))), some (.r (.d p)), some (.r (.d (.tuple [.int i, .int j]))), none] (_ :: _) _
    wtm_at "w"
    refine ⟨p, rfl, fun w hw => ?_⟩
    subst hw
    wtm_at "w"
    · rename_i h
      obtain ⟨n, rfl⟩ := wholeM_int E h
      refine ⟨0, n, rfl, rfl, fun h1 => ?_, fun h1 => ?_⟩
      · wtm_at "w"
        refine ⟨_, rfl, ?_⟩
        show W.d (.bool _) = W.d (.bool (decide (0 ≤ n) && decide (n ≤ 65535)))
        rw [h1]; rfl
      · refine ⟨_, rfl, ?_⟩
        show W.d (.bool _) = W.d (.bool (decide (0 ≤ n) && decide (n ≤ 65535)))
        rw [h1]; rfl
    · rename_i h
      refine ⟨_, rfl, ?_⟩
      cases p <;> first | rfl | cases h
  | ref x n =>
    have hsh := Kind.shaped hok hk
    have o1 : eqOk (.tuple [.str (rtag x), .str n]) (.str "int") = true := by
      have : SeqAt.shaped (.str "int") = true := by decide +kernel
      simp only [eqOk]
      rw [show SeqAt.shaped (.tuple [.str (rtag x), .str n]) = true from hsh, this]
      simp
    have o2 : eqOk (.tuple [.str (rtag x), .str n]) (.str "bool") = true := by
      have : SeqAt.shaped (.str "bool") = true := by decide +kernel
      simp only [eqOk]
      rw [show SeqAt.shaped (.tuple [.str (rtag x), .str n]) = true from hsh, this]
      simp
    cases hp : endP p with
    | none =>
      show DSs c [some (.r (.lg L.D)), some (.r (.d (.tuple [.str (rtag x), .str n]))), some (.r (.d p)), some (.r (.d (.tuple [.int i, .int j]))), none] (_ :: _) _
      wtm_at "w"
      refine ⟨p, rfl, fun w hw => ?_⟩
      obtain rfl : w = .d (.bool false) := hw.trans (by rw [hp]; rfl)
      wtm_at "w"
      exact ⟨false, by simp only [PayR, hp], rfl⟩
    | some g =>
      obtain rfl := endP_shape hp
      obtain ⟨a, b⟩ := g
      show DSs c [some (.r (.lg L.D)), some (.r (.d (.tuple [.str (rtag x), .str n]))), some (.r (.d (.tuple [.str "end", .int a, .int b]))), some (.r (.d (.tuple [.int i, .int j]))), none] (_ :: _) _
      wtm_at "w"
      refine ⟨_, rfl, fun w hw => ?_⟩
      obtain rfl : w = .d (.bool true) := hw.trans (by rw [hp]; rfl)
      wtm_at "w"
      · rename_i h
        have hg : gt L.c.m (a, b) = none := by
          have h' : (lkp L.c.D.m (a, b)).isSome = false := (Bool.not_eq_true' _).mp h
          rw [Lc.gt_m, Option.isSome_map] at h'
          cases e : gt L.c.m (a, b) with
          | none => rfl
          | some _ => rw [e] at h'; cases h'
        exact ⟨false, by simp [PayR, hp, hg], rfl⟩
      · rename_i h h2
        have he : (a, b) = (i, j) := by
          have h2' : (a == i && (b == j && true)) = true := h2
          simp only [Bool.and_true, Bool.and_eq_true, beq_iff_eq] at h2'
          rw [h2'.1, h2'.2]
        exact ⟨false, by simp [PayR, hp, he], rfl⟩
      · rename_i h h2
        have h' : (lkp L.c.D.m (a, b)).isSome = true := (Bool.not_eq_false' _).mp h
        rw [Lc.gt_m, Option.isSome_map] at h'
        obtain ⟨mk, hmk⟩ := Option.isSome_iff_exists.mp h'
        obtain ⟨t, ht1, ht2⟩ := ht (a, b) (by rw [hmk]; simp)
        have hne : ¬ (a, b) = (i, j) := fun e => by
          obtain ⟨rfl, rfl⟩ := Prod.mk.inj e
          have h2' : (a == a && (b == b && true)) = false := h2
          simp at h2'
        refine ⟨_, ix_dt (d := .str mk) (by rw [show L.D.c.m = L.c.D.m from rfl, Lc.gt_m, hmk]; rfl), ?_⟩
        wtm_at "w"
        · rename_i h3
          rw [eqv_str] at h3
          have h3' : ¬ mk = "open" := of_decide_eq_false ((Bool.not_eq_true' _).mp h3)
          exact ⟨false, by simp [PayR, hp, hmk, h3'], rfl⟩
        · rename_i h3
          rw [eqv_str] at h3
          have h3' : mk = "open" := of_decide_eq_true ((Bool.not_eq_false' _).mp h3)
          refine ⟨_, ix_dt (d := t.D) (by rw [show L.D.c.t = L.c.D.t from rfl, Lc.gt_t, ht1]; rfl), ?_⟩
          wtm_at "w"
          refine ⟨⟨L.tab, t, .ref x n, ht2, (TU.kind hok hk rfl).1⟩, rfl, fun w hw => ?_⟩
          obtain ⟨bb, hbb, rfl⟩ := hw
          refine ⟨bb, ?_, rfl⟩
          subst h3'
          simp only [PayR, hp]
          rw [if_pos ⟨hmk, hne⟩]
          exact ⟨t, ht1, hbb⟩
end
/-- what _allows_at answers: the event's name, its label and payload (if it has them), the side, its talk, its mailbox -/
def AtR (L : Lg) (nm : Str) (lab pay : PD) (pl : Pl) (t : Talk) (box : List Msg) (b : Bool) : Prop :=
  if nm = "drop" then b = true else
  if nm = "close" then b = decide ((headM L.tab t).tag = "end") else
  if nm = "told" then b = (decide ((headM L.tab t).tag = "hear") && box.isEmpty && decide (gt L.c.m (pl.1, 1 - pl.2) = some "fallen")) else
  match lab with
  | .str l => if (headM L.tab t).tag = nm then (match (headM L.tab t).rows.find l with
      | none => b = false
      | some (k, _) => if nm = "say" then PayR L k pay pl b else b = oldM box lab pay) else b = false
  | _ => b = false
/-! ## Mirror: events, what they change -/
section
variable {κ β : Type} [DecidableEq κ]
theorem gt_cons {p : κ × β} {l : List (κ × β)} {j : κ} : gt (p :: l) j = if p.1 = j then some p.2 else gt l j := by
  by_cases hz : p.1 = j
  · simp [gt, hz]
  · simp [gt, hz]
theorem gt_app {l r : List (κ × β)} {j : κ} : gt (l ++ r) j = match gt l j with | some d => some d | none => gt r j := by
  induction l with
  | nil => rfl
  | cons p l ih =>
    rw [List.cons_append, gt_cons, gt_cons]
    split
    · rfl
    · exact ih
theorem gt_none {l : List (κ × β)} {j : κ} : gt l j = none ↔ ∀ q ∈ l, ¬ q.1 = j := by
  induction l with
  | nil => simp [gt]
  | cons p l ih =>
    rw [gt_cons]
    split
    · rename_i h
      simp [h]
    · rename_i h
      rw [ih]
      simp [h]
theorem gt_upd {k j : κ} {d : β} {r : List (κ × β)} : gt (r.map fun kv => if kv.1 = k then (kv.1, d) else kv) j = if j = k then (gt r j).map fun _ => d else gt r j := by
  induction r with
  | nil => simp [gt]
  | cons p r ih =>
    rw [List.map_cons, gt_cons, gt_cons, ih]
    by_cases hp : p.1 = k <;> by_cases hj : j = k
    · subst hj; simp [hp]
    · rw [if_pos hp, if_neg hj, if_neg hj]
      have : ¬ p.1 = j := fun e => hj (e.symm.trans hp)
      simp [this]
    · subst hj
      simp [hp]
    · rw [if_neg hp, if_neg hj, if_neg hj]
theorem gt_pt {k j : κ} {d : β} {r : List (κ × β)} : gt (pt r k d) j = if j = k then some d else gt r j := by
  unfold pt
  split
  · rename_i h
    rw [gt_upd]
    by_cases hj : j = k
    · subst hj
      rw [if_pos rfl, if_pos rfl]
      cases e : gt r j with
      | some x => rfl
      | none =>
        obtain ⟨q, hq, hk⟩ := List.any_eq_true.mp h
        exact absurd (of_decide_eq_true hk) (gt_none.mp e q hq)
    · rw [if_neg hj, if_neg hj]
  · rename_i h
    rw [gt_app]
    by_cases hj : j = k
    · subst hj
      have : gt r j = none := gt_none.mpr fun q hq hk => h (List.any_eq_true.mpr ⟨q, hq, decide_eq_true hk⟩)
      rw [this]
      simp [gt]
    · rw [if_neg hj]
      cases e : gt r j with
      | some x => rfl
      | none => simp [gt, Ne.symm hj]
theorem gt_same {k : κ} {d : β} {r : List (κ × β)} : gt (pt r k d) k = some d := by rw [gt_pt, if_pos rfl]
theorem gt_ne {k j : κ} {d : β} {r : List (κ × β)} (h : ¬ j = k) : gt (pt r k d) j = gt r j := by rw [gt_pt, if_neg h]
theorem gt_ptn {k j : κ} {d : β} {r : List (κ × β)} (h : gt r j ≠ none) : gt (pt r k d) j ≠ none := by
  rw [gt_pt]
  split
  · simp
  · exact h
theorem gt_ptk {k j : κ} {d : β} {r : List (κ × β)} (hk : gt r k ≠ none) : gt (pt r k d) j ≠ none ↔ gt r j ≠ none := by
  rw [gt_pt]
  split
  · rename_i h
    subst h
    simp [hk]
  · exact Iff.rfl
theorem pt_len {k : κ} {d : β} {r : List (κ × β)} : (pt r k d).length ≤ r.length + 1 := by
  unfold pt
  split
  · simp
  · simp
theorem pt_new {k : κ} {d : β} {r : List (κ × β)} (h : gt r k = none) : pt r k d = r ++ [(k, d)] := by
  unfold pt
  rw [if_neg]
  intro h2
  obtain ⟨q, hq, hk⟩ := List.any_eq_true.mp h2
  exact gt_none.mp h q hq (of_decide_eq_true hk)
theorem pt_lenk {k : κ} {d : β} {r : List (κ × β)} (h : gt r k ≠ none) : (pt r k d).length = r.length := by
  unfold pt
  rw [if_pos]
  · simp
  · refine Classical.byContradiction fun g => h (gt_none.mpr fun q hq hk => g (List.any_eq_true.mpr ⟨q, hq, decide_eq_true hk⟩))
end
/-- events that are allowed -/
inductive Ev
  | opn (a c n : Int) (x : Bool) (nm : Str)
  | say (i j : Int) (l : Str) (p : PD)
  | hear (i j : Int) (l : Str) (p : PD)
  | told (i j : Int)
  | close (i j : Int)
  | drop (i j : Int)
  | become (a : Int) (x : PD)
  | done (a : Int)
  | fall (a : Int)
def Ev.nm : Ev → Str
  | .opn .. => "open"
  | .say .. => "say"
  | .hear .. => "hear"
  | .told .. => "told"
  | .close .. => "close"
  | .drop .. => "drop"
  | .become .. => "become"
  | .done .. => "done"
  | .fall .. => "fall"
def Ev.ps : Ev → List PD
  | .opn a c n x nm => [.int a, .int c, .int n, .tuple [.str (rtag x), .str nm]]
  | .say i j l p => [.int i, .int j, .str l, p]
  | .hear i j l p => [.int i, .int j, .str l, p]
  | .told i j => [.int i, .int j]
  | .close i j => [.int i, .int j]
  | .drop i j => [.int i, .int j]
  | .become a x => [.int a, x]
  | .done a => [.int a]
  | .fall a => [.int a]
def Ev.D (e : Ev) : PD := .tuple (.str e.nm :: e.ps)
/-- the talk of a side after a label -/
def nextT (tab : Tab) (l : Lc) (p : Pl) (x : Str) : Talk := match gt l.t p with
  | some t => (match (headM tab t).rows.find x with
    | some (_, u) => u
    | none => .fin)
  | none => .fin
def boxOf (l : Lc) (p : Pl) : List Msg := (gt l.b p).getD []
def oth (p : Pl) : Pl := (p.1, 1 - p.2)
def takes (l : Lc) (q : Pl) : Bool := decide (gt l.m q = some "open") || decide (gt l.m q = some "away")
def markM (m : List (Pl × Str)) (d : PD) (x : Str) : List (Pl × Str) := match endP d with
  | some g => pt m g x
  | none => m
def Lc.say (l : Lc) (p : Pl) (x : Str) (d : PD) (u : Talk) : Lc where
  t := pt l.t p u
  m := markM l.m d "away"
  b := if takes l (oth p) then pt l.b (oth p) (boxOf l (oth p) ++ [(x, d)]) else l.b
  f := l.f
  o := if takes l (oth p) then l.o else l.o ++ (endP d).toList
def Lc.hear (l : Lc) (p : Pl) (d : PD) (u : Talk) : Lc where
  t := pt l.t p u
  m := markM l.m d "open"
  b := pt l.b p (boxOf l p).tail
  f := l.f
  o := l.o
def Lc.leave (l : Lc) (p : Pl) (mk : Str) : Lc where
  t := l.t
  m := pt l.m p mk
  b := pt l.b p []
  f := l.f
  o := (if l.o.head? = some p then l.o.tail else l.o) ++ endsM (boxOf l p)
/-- fl: the law's own order -/
def Lc.opn (fl : Bool) (l : Lc) (n : Int) (x : Bool) (nm : Str) : Lc where
  t := if fl then pt (pt l.t (n, 1) (.ref x nm)) (n, 0) (.ref (!x) nm) else pt (pt l.t (n, 0) (.ref (!x) nm)) (n, 1) (.ref x nm)
  m := pt (pt l.m (n, 0) "open") (n, 1) "open"
  b := pt (pt l.b (n, 0) []) (n, 1) []
  f := l.f ++ [false]
  o := l.o
def Lc.fin (l : Lc) (a : Int) : Lc := { l with f := l.f.set a.toNat true }
def Lc.app (tab : Tab) (fl : Bool) (l : Lc) : Ev → Lc
  | .opn _ _ n x nm => l.opn fl n x nm
  | .say i j x d => l.say (i, j) x d (nextT tab l (i, j) x)
  | .hear i j x d => l.hear (i, j) d (nextT tab l (i, j) x)
  | .told i j => l.leave (i, j) "closed"
  | .close i j => l.leave (i, j) "closed"
  | .drop i j => l.leave (i, j) "fallen"
  | .become _ _ => l
  | .done a => l.fin a
  | .fall a => l.fin a
def Lg.app (L : Lg) (e : Ev) : Lg := { L with n := (match e with | .opn .. => L.n + 1 | _ => L.n), c := L.c.app L.tab false e }
/-- what an event asks of a state, as far as it matters -/
def actP (f : List Bool) (a : Int) : Prop := 0 ≤ a ∧ a < f.length
structure SayP (tab : Tab) (l : Lc) (p : Pl) (x : Str) (d : PD) : Prop where
  here : gt l.m p = some "open"
  row : ∃ t rs k u, gt l.t p = some t ∧ headM tab t = .act true rs ∧ rs.find x = some (k, u)
  pay : payB d = true
  gv : ∀ g, endP d = some g → gt l.m g = some "open" ∧ g ≠ p
structure HearP (tab : Tab) (l : Lc) (p : Pl) (x : Str) (d : PD) : Prop where
  here : gt l.m p = some "open"
  row : ∃ t rs k u, gt l.t p = some t ∧ headM tab t = .act false rs ∧ rs.find x = some (k, u)
  box : ∃ r, gt l.b p = some ((x, d) :: r)
def Al (tab : Tab) (l : Lc) : Ev → Prop
  | .opn _ _ n _ nm => (tab.get nm).isSome = true ∧ gt l.m (n, 0) = none ∧ gt l.m (n, 1) = none
  | .say i j x d => SayP tab l (i, j) x d
  | .hear i j x d => HearP tab l (i, j) x d
  | .told i j => gt l.m (i, j) = some "open" ∧ gt l.b (i, j) = some [] ∧ gt l.m (i, 1 - j) = some "fallen"
  | .close i j => gt l.m (i, j) = some "open"
  | .drop i j => gt l.m (i, j) = some "open" ∨ (gt l.m (i, j) ≠ none ∧ l.o.head? = some (i, j))
  | .become a _ => actP l.f a
  | .done a => actP l.f a
  | .fall a => actP l.f a
/-- texts and payloads that can be laid -/
def Ev.good : Ev → Prop
  | .say _ _ l p => gs l = true ∧ PyData.canLay0 p = true ∧ PyData.depth p ≤ 8
  | .hear _ _ l p => gs l = true ∧ PyData.canLay0 p = true ∧ PyData.depth p ≤ 8
  | _ => True
def Lg.init (tab : Tab) : Lg := ⟨tab, 0, ⟨[], [], [], [false], []⟩⟩
inductive Run (tab : Tab) : List Ev → Lg → Prop
  | nil : Run tab [] (Lg.init tab)
  | snoc {es : List Ev} {L : Lg} {e : Ev} : Run tab es L → Al tab L.c e → (∀ a c n x nm, e = .opn a c n x nm → n = L.n) → Run tab (es ++ [e]) (L.app e)
/-! ## What stays true of a state -/
theorem payB_lay {d : PD} (h : payB d = true) : PyData.canLay0 d = true ∧ PyData.depth d ≤ 1 ∧ imm d = true := by
  cases d with
  | none => exact ⟨by simp [PyData.canLay0], by simp [PyData.depth], by simp [imm]⟩
  | int i => exact ⟨by simp [PyData.canLay0], by simp [PyData.depth], by simp [imm]⟩
  | bool i => exact ⟨by simp [PyData.canLay0], by simp [PyData.depth], by simp [imm]⟩
  | tuple ds =>
    obtain ⟨g, hg⟩ := Option.isSome_iff_exists.mp (show (endP (.tuple ds)).isSome = true from h)
    have := endP_shape hg
    rw [this]
    refine ⟨?_, by simp [PyData.depth, PyData.depthAll], by simp [imm, immAll]⟩
    have e : PyData.canLay0 (.str "end") = true := by decide +kernel
    simp only [PyData.canLay0, PyData.canLayAll0] at e ⊢
    rw [e]; rfl
  | _ => cases h
theorem payB_shaped {d : PD} (h : payB d = true) : SeqAt.shaped d = true := shaped_of (payB_lay h).1 (by have := (payB_lay h).2.1; omega)
structure LcOk (tab : Tab) (k : Nat) (l : Lc) : Prop where
  ok : tab.Ok
  t : ∀ p, gt l.m p ≠ none → ∃ t, gt l.t p = some t ∧ TU tab t
  b : ∀ p, gt l.m p ≠ none → gt l.b p ≠ none
  bx : ∀ p box, gt l.b p = some box → box.length ≤ k ∧ ∀ m ∈ box, payB m.2 = true ∧ ∀ g, endP m.2 = some g → gt l.m g ≠ none
  pa : ∀ p, gt l.m p ≠ none → gt l.m (oth p) ≠ none
  nt : l.t.length ≤ 2 * k
  nm : l.m.length ≤ 2 * k
  nb : l.b.length ≤ 2 * k
  nf : l.f.length ≤ k + 1
  no : l.o.length ≤ k * k
section
variable {tab : Tab} {k : Nat} {l : Lc}
theorem LcOk.box (h : LcOk tab k l) {p : Pl} (hp : gt l.m p ≠ none) : gt l.b p = some (boxOf l p) := by
  unfold boxOf
  cases e : gt l.b p with
  | none => exact absurd e (h.b p hp)
  | some x => rfl
theorem LcOk.next (h : LcOk tab k l) {p : Pl} {x : Str} {s : Bool} {t : Talk} {rs : Rows} {kd : Kind} {u : Talk} (h1 : gt l.t p = some t) (h0 : gt l.m p ≠ none) (h2 : headM tab t = .act s rs) (h3 : rs.find x = some (kd, u)) : nextT tab l p x = u ∧ TU tab u ∧ kd.ok tab = true := by
  obtain ⟨t', e1, e2⟩ := h.t p h0
  rw [h1] at e1; cases e1
  have g := e2.head
  rw [h2] at g
  refine ⟨?_, g.next h3⟩
  unfold nextT
  rw [h1]
  dsimp only
  rw [h2]
  simp only [Talk.rows, h3]
theorem TU.ref' (ok : tab.Ok) {x : Bool} {n : Str} (h : (tab.get n).isSome = true) : TU tab (.ref x n) := ⟨⟨ok, by simpa [Talk.refs] using h, by simp [Talk.dep], by simp [Talk.size]⟩, .inl rfl⟩
theorem markM_key {m : List (Pl × Str)} {d : PD} {x : Str} (h : ∀ g, endP d = some g → gt m g ≠ none) (p : Pl) : gt (markM m d x) p ≠ none ↔ gt m p ≠ none := by
  unfold markM
  cases e : endP d with
  | none => exact Iff.rfl
  | some g => exact gt_ptk (h g e)
theorem markM_len {m : List (Pl × Str)} {d : PD} {x : Str} (h : ∀ g, endP d = some g → gt m g ≠ none) : (markM m d x).length = m.length := by
  unfold markM
  cases e : endP d with
  | none => rfl
  | some g => exact pt_lenk (h g e)
theorem some_ne {α : Type} {o : Option α} {x : α} (h : o = some x) : o ≠ none := by rw [h]; simp
/-- no new sides -/
theorem LcOk.keep (h : LcOk tab k l) {l' : Lc} (hk : ∀ p, gt l'.m p ≠ none ↔ gt l.m p ≠ none)
    (ht : ∀ p, gt l.m p ≠ none → gt l'.t p = gt l.t p ∨ ∃ t, gt l'.t p = some t ∧ TU tab t)
    (hb : ∀ p, gt l.m p ≠ none → gt l'.b p ≠ none) (hx : ∀ p box, gt l'.b p = some box → gt l.b p = some box ∨ (box.length ≤ k + 1 ∧ ∀ m ∈ box, payB m.2 = true ∧ ∀ g, endP m.2 = some g → gt l.m g ≠ none))
    (n1 : l'.t.length = l.t.length) (n2 : l'.m.length = l.m.length) (n3 : l'.b.length = l.b.length) (n4 : l'.f.length = l.f.length) (n5 : l'.o.length ≤ l.o.length + (k + 1)) : LcOk tab (k + 1) l' where
  ok := h.ok
  t := fun p hp => by
    have g := h.t p ((hk p).mp hp)
    rcases ht p ((hk p).mp hp) with z | z
    · rw [z]; exact g
    · exact z
  b := fun p hp => hb p ((hk p).mp hp)
  bx := fun p box hp => by
    rcases hx p box hp with z | ⟨z1, z2⟩
    · obtain ⟨g1, g2⟩ := h.bx p box z
      exact ⟨by omega, fun m hm => ⟨(g2 m hm).1, fun g hg => (hk g).mpr ((g2 m hm).2 g hg)⟩⟩
    · exact ⟨z1, fun m hm => ⟨(z2 m hm).1, fun g hg => (hk g).mpr ((z2 m hm).2 g hg)⟩⟩
  pa := fun p hp => (hk _).mpr (h.pa p ((hk p).mp hp))
  nt := by have := h.nt; omega
  nm := by have := h.nm; omega
  nb := by have := h.nb; omega
  nf := by have := h.nf; omega
  no := by
    have := h.no
    have e : (k + 1) * (k + 1) = k * k + (2 * k + 1) := by rw [Nat.add_mul, Nat.mul_add]; omega
    rw [e]
    omega
theorem LcOk.leave (h : LcOk tab k l) {p : Pl} {mk : Str} (hp : gt l.m p ≠ none) : LcOk tab (k + 1) (l.leave p mk) := by
  have hbx := h.box hp
  have tk : ∃ t, gt l.t p = some t ∧ TU tab t := h.t p hp
  refine h.keep (fun q => gt_ptk hp) (fun q _ => .inl rfl) (fun q hq => gt_ptn (h.b q hq)) (fun q box hq => ?_) rfl (pt_lenk hp) (pt_lenk (h.b p hp)) rfl ?_
  · have hq : gt (pt l.b p []) q = some box := hq
    rw [gt_pt] at hq
    split at hq
    · cases hq
      exact .inr ⟨by simp, fun m hm => by cases hm⟩
    · exact .inl hq
  · show ((if l.o.head? = some p then l.o.tail else l.o) ++ endsM (boxOf l p)).length ≤ _
    rw [List.length_append]
    have h1 : (if l.o.head? = some p then l.o.tail else l.o).length ≤ l.o.length := by
      split
      · simp
      · exact Nat.le_refl _
    have h2 : (endsM (boxOf l p)).length ≤ (boxOf l p).length := List.length_filterMap_le _ _
    have h3 := (h.bx p _ hbx).1
    omega
theorem LcOk.say (h : LcOk tab k l) {p : Pl} {x : Str} {d : PD} (a : SayP tab l p x d) : LcOk tab (k + 1) (l.say p x d (nextT tab l p x)) := by
  obtain ⟨t, rs, kd, u, e1, e2, e3⟩ := a.row
  have hp : gt l.m p ≠ none := some_ne a.here
  obtain ⟨hn, hu, _⟩ := h.next e1 hp e2 e3
  rw [hn]
  have hg : ∀ g, endP d = some g → gt l.m g ≠ none := fun g hg => some_ne (a.gv g hg).1
  have hq := h.pa p hp
  have hbq := h.box hq
  refine h.keep (fun q => markM_key hg q) (fun q hq => ?_) (fun q hq => ?_) (fun q box hq => ?_) (pt_lenk (some_ne e1)) (markM_len hg) ?_ rfl ?_
  · show gt (pt l.t p u) q = _ ∨ ∃ t, gt (pt l.t p u) q = some t ∧ _
    rw [gt_pt]
    split
    · exact .inr ⟨u, rfl, hu⟩
    · exact .inl rfl
  · show gt (if takes l (oth p) then pt l.b (oth p) (boxOf l (oth p) ++ [(x, d)]) else l.b) q ≠ none
    split
    · exact gt_ptn (h.b q hq)
    · exact h.b q hq
  · replace hq : gt (if takes l (oth p) then pt l.b (oth p) (boxOf l (oth p) ++ [(x, d)]) else l.b) q = some box := hq
    split at hq
    · rw [gt_pt] at hq
      split at hq
      · cases hq
        obtain ⟨g1, g2⟩ := h.bx _ _ hbq
        refine .inr ⟨by rw [List.length_append]; simp; omega, fun m hm => ?_⟩
        rcases List.mem_append.mp hm with z | z
        · exact g2 m z
        · obtain rfl := List.mem_singleton.mp z
          exact ⟨a.pay, hg⟩
      · exact .inl hq
    · exact .inl hq
  · show (if takes l (oth p) then pt l.b (oth p) (boxOf l (oth p) ++ [(x, d)]) else l.b).length = _
    split
    · exact pt_lenk (h.b _ hq)
    · rfl
  · show (if takes l (oth p) then l.o else l.o ++ (endP d).toList).length ≤ _
    split
    · omega
    · rw [List.length_append]
      have : (endP d).toList.length ≤ 1 := by cases endP d <;> simp
      omega
theorem LcOk.hear (h : LcOk tab k l) {p : Pl} {x : Str} {d : PD} (a : HearP tab l p x d) : LcOk tab (k + 1) (l.hear p d (nextT tab l p x)) := by
  obtain ⟨t, rs, kd, u, e1, e2, e3⟩ := a.row
  obtain ⟨r, e4⟩ := a.box
  have hp : gt l.m p ≠ none := some_ne a.here
  obtain ⟨hn, hu, _⟩ := h.next e1 hp e2 e3
  rw [hn]
  obtain ⟨g1, g2⟩ := h.bx p _ e4
  have hg : ∀ g, endP d = some g → gt l.m g ≠ none := (g2 (x, d) List.mem_cons_self).2
  have hbp : boxOf l p = (x, d) :: r := by unfold boxOf; rw [e4]; rfl
  refine h.keep (fun q => markM_key hg q) (fun q hq => ?_) (fun q hq => gt_ptn (h.b q hq)) (fun q box hq => ?_) (pt_lenk (some_ne e1)) (markM_len hg) (pt_lenk (some_ne e4)) rfl (by show l.o.length ≤ _; omega)
  · show gt (pt l.t p u) q = _ ∨ ∃ t, gt (pt l.t p u) q = some t ∧ _
    rw [gt_pt]
    split
    · exact .inr ⟨u, rfl, hu⟩
    · exact .inl rfl
  · replace hq : gt (pt l.b p (boxOf l p).tail) q = some box := hq
    rw [gt_pt, hbp] at hq
    split at hq
    · cases hq
      simp only [List.length_cons] at g1
      exact .inr ⟨by simp only [List.tail_cons]; omega, fun m hm => g2 m (List.mem_cons_of_mem _ hm)⟩
    · exact .inl hq
theorem gt_two {β : Type} {r : List (Pl × β)} {a b q : Pl} {x y : β} : gt (pt (pt r a x) b y) q = if q = b then some y else if q = a then some x else gt r q := by rw [gt_pt, gt_pt]
theorem LcOk.opn (h : LcOk tab k l) {fl : Bool} {n : Int} {x : Bool} {nm : Str} (hn : (tab.get nm).isSome = true) : LcOk tab (k + 1) (l.opn fl n x nm) := by
  have km : ∀ q, gt (l.opn fl n x nm).m q = if q = (n, 1) then some ("open" : Str) else if q = (n, 0) then some ("open" : Str) else gt l.m q := fun q => gt_two
  have kb : ∀ q, gt (l.opn fl n x nm).b q = if q = (n, 1) then some [] else if q = (n, 0) then some [] else gt l.b q := fun q => gt_two
  have kt : ∀ q, gt (l.opn fl n x nm).t q = if q = (n, 1) then some (.ref x nm) else if q = (n, 0) then some (.ref (!x) nm) else gt l.t q := fun q => by
    cases fl with
    | true =>
      show gt (pt (pt l.t (n, 1) (.ref x nm)) (n, 0) (.ref (!x) nm)) q = _
      rw [gt_two]
      by_cases h1 : q = (n, 1)
      · subst h1; simp
      · by_cases h2 : q = (n, 0)
        · subst h2; simp
        · simp only [if_neg h1, if_neg h2]
    | false => exact gt_two
  have l2 : ∀ {β : Type} {r : List (Pl × β)} {a b : Pl} {x y : β}, (pt (pt r a x) b y).length ≤ r.length + 2 := fun {β r a b x y} => by
    have h1 := pt_len (r := r) (k := a) (d := x)
    have h2 := pt_len (r := pt r a x) (k := b) (d := y)
    omega
  refine ⟨h.ok, fun p hp => ?_, fun p hp => ?_, fun p box hp => ?_, fun p hp => ?_, ?_, ?_, ?_, ?_, ?_⟩
  · rw [km] at hp
    rw [kt]
    split
    · exact ⟨_, rfl, TU.ref' h.ok hn⟩
    · rename_i h1
      rw [if_neg h1] at hp
      split
      · exact ⟨_, rfl, TU.ref' h.ok hn⟩
      · rename_i h2
        rw [if_neg h2] at hp
        exact h.t p hp
  · rw [km] at hp
    rw [kb]
    split
    · simp
    · rename_i h1
      rw [if_neg h1] at hp
      split
      · simp
      · rename_i h2
        rw [if_neg h2] at hp
        exact h.b p hp
  · rw [kb] at hp
    split at hp
    · cases hp; exact ⟨by simp, fun m hm => by cases hm⟩
    · split at hp
      · cases hp; exact ⟨by simp, fun m hm => by cases hm⟩
      · obtain ⟨g1, g2⟩ := h.bx p box hp
        refine ⟨by omega, fun m hm => ⟨(g2 m hm).1, fun g hg => ?_⟩⟩
        rw [km]
        split
        · simp
        · split
          · simp
          · exact (g2 m hm).2 g hg
  · have hp' : p = (n, 1) ∨ p = (n, 0) ∨ gt l.m p ≠ none := by
      rw [km] at hp
      by_cases h1 : p = (n, 1)
      · exact .inl h1
      · by_cases h2 : p = (n, 0)
        · exact .inr (.inl h2)
        · rw [if_neg h1, if_neg h2] at hp
          exact .inr (.inr hp)
    rw [km]
    rcases hp' with rfl | rfl | z
    · simp [oth]
    · simp [oth]
    · split
      · simp
      · split
        · simp
        · exact h.pa p z
  · have := h.nt
    cases fl with
    | true => have := l2 (r := l.t) (a := (n, 1)) (b := (n, 0)) (x := .ref x nm) (y := .ref (!x) nm); show (pt (pt l.t (n, 1) (.ref x nm)) (n, 0) (.ref (!x) nm)).length ≤ _; omega
    | false => have := l2 (r := l.t) (a := (n, 0)) (b := (n, 1)) (x := .ref (!x) nm) (y := .ref x nm); show (pt (pt l.t (n, 0) (.ref (!x) nm)) (n, 1) (.ref x nm)).length ≤ _; omega
  · have := h.nm
    have := l2 (r := l.m) (a := (n, 0)) (b := (n, 1)) (x := "open") (y := "open")
    show (pt (pt l.m (n, 0) "open") (n, 1) "open").length ≤ _
    omega
  · have := h.nb
    have := l2 (r := l.b) (a := (n, 0)) (b := (n, 1)) (x := []) (y := [])
    show (pt (pt l.b (n, 0) []) (n, 1) []).length ≤ _
    omega
  · have := h.nf
    show (l.f ++ [false]).length ≤ _
    rw [List.length_append]
    simp
    omega
  · have := h.no
    have e : (k + 1) * (k + 1) = k * k + (2 * k + 1) := by rw [Nat.add_mul, Nat.mul_add]; omega
    show l.o.length ≤ _
    rw [e]
    omega
theorem LcOk.up (h : LcOk tab k l) : LcOk tab (k + 1) l := h.keep (fun _ => Iff.rfl) (fun _ _ => .inl rfl) (fun p hp => h.b p hp) (fun _ _ e => .inl e) rfl rfl rfl rfl (by omega)
theorem LcOk.fin (h : LcOk tab k l) {a : Int} : LcOk tab (k + 1) (l.fin a) := h.keep (fun _ => Iff.rfl) (fun _ _ => .inl rfl) (fun p hp => h.b p hp) (fun _ _ e => .inl e) rfl rfl rfl (by simp [Lc.fin]) (by show l.o.length ≤ _; omega)
theorem LcOk.app (h : LcOk tab k l) {fl : Bool} {e : Ev} (a : Al tab l e) : LcOk tab (k + 1) (l.app tab fl e) := by
  cases e with
  | opn _ _ n x nm => exact h.opn a.1
  | say i j x d => exact h.say a
  | hear i j x d => exact h.hear a
  | told i j => exact h.leave (some_ne a.1)
  | close i j => exact h.leave (some_ne (show gt l.m (i, j) = some "open" from a))
  | drop i j =>
    rcases a with a | a
    · exact h.leave (some_ne a)
    · exact h.leave a.1
  | become _ _ => exact h.up
  | done a => exact h.fin
  | fall a => exact h.fin
theorem LcOk.init (ok : tab.Ok) : LcOk tab 0 (Lg.init tab).c := ⟨ok, fun p hp => absurd rfl hp, fun p hp => absurd rfl hp, fun p box e => (by cases e), fun p hp => absurd rfl hp, by simp [Lg.init], by simp [Lg.init], by simp [Lg.init], by simp [Lg.init], by simp [Lg.init]⟩
end
structure AA where
  L : Lg
  nm : Str
  lab : PD
  pay : PD
  i : Int
  j : Int
  t : Talk
  box : List Msg
  ok : L.tab.Ok
  hnm : nm = "drop" ∨ nm = "close" ∨ nm = "told" ∨ nm = "say" ∨ nm = "hear"
  ht : gt L.c.t (i, j) = some t
  htu : TU L.tab t
  hb : gt L.c.b (i, j) = some box
  hpart : ∃ mk, gt L.c.m (i, 1 - j) = some mk
  hp : SeqAt.shaped pay = true
  hm : ∀ m ∈ box, SeqAt.shaped m.2 = true
  hts : ∀ g, gt L.c.m g ≠ none → ∃ t, gt L.c.t g = some t ∧ TU L.tab t
def AA.ev (z : AA) : List PD := .str z.nm :: .int z.i :: .int z.j :: (if z.nm = "say" ∨ z.nm = "hear" then [z.lab, z.pay] else [])
theorem AtR.msg {L : Lg} {nm : Str} {lab pay : PD} {pl : Pl} {t : Talk} {box : List Msg} {b : Bool} (h : nm = "say" ∨ nm = "hear") : AtR L nm lab pay pl t box b ↔ (match lab with
  | .str l => if (headM L.tab t).tag = nm then (match (headM L.tab t).rows.find l with
      | none => b = false
      | some (k, _) => if nm = "say" then PayR L k pay pl b else b = oldM box lab pay) else b = false
  | _ => b = false) := by
  unfold AtR
  rw [if_neg (by rcases h with rfl | rfl <;> decide), if_neg (by rcases h with rfl | rfl <;> decide), if_neg (by rcases h with rfl | rfl <;> decide)]
  first | done | exact Iff.rfl
theorem AtR.tag {L : Lg} {nm : Str} {lab pay : PD} {pl : Pl} {t : Talk} {box : List Msg} (h : nm = "say" ∨ nm = "hear") (hd : ¬ (headM L.tab t).tag = nm) : AtR L nm lab pay pl t box false := by
  rw [AtR.msg h]
  cases lab <;> first | rfl | (dsimp only; rw [if_neg hd])
theorem AtR.lab {L : Lg} {nm : Str} {lab pay : PD} {pl : Pl} {t : Talk} {box : List Msg} (h : nm = "say" ∨ nm = "hear") (hl : isStrD lab = false) : AtR L nm lab pay pl t box false := by
  rw [AtR.msg h]
  cases lab <;> first | rfl | cases hl
theorem AtR.row {L : Lg} {nm : Str} {l : Str} {pay : PD} {pl : Pl} {t : Talk} {box : List Msg} (h : nm = "say" ∨ nm = "hear") (hf : (headM L.tab t).rows.find l = none) : AtR L nm (.str l) pay pl t box false := by
  rw [AtR.msg h]
  dsimp only
  split
  · rw [hf]
  · rfl
theorem AtR.say {L : Lg} {l : Str} {pay : PD} {pl : Pl} {t : Talk} {box : List Msg} {k : Kind} {u : Talk} {b : Bool} (ht : (headM L.tab t).tag = "say") (hf : (headM L.tab t).rows.find l = some (k, u)) (hp : PayR L k pay pl b) : AtR L "say" (.str l) pay pl t box b := by
  rw [AtR.msg (.inl rfl)]
  dsimp only
  rw [if_pos ht, hf]
  dsimp only
  rw [if_pos rfl]
  exact hp
theorem AtR.hear {L : Lg} {l : Str} {pay : PD} {pl : Pl} {t : Talk} {box : List Msg} {k : Kind} {u : Talk} (ht : (headM L.tab t).tag = "hear") (hf : (headM L.tab t).rows.find l = some (k, u)) : AtR L "hear" (.str l) pay pl t box (oldM box (.str l) pay) := by
  rw [AtR.msg (.inr rfl)]
  dsimp only
  rw [if_pos ht, hf]
  dsimp only
  rw [if_neg (by decide)]
section
variable {P : Program} {w : World} {K : PySem.W.Frag} {mg : Str → Option Value} {base : Heap} {C : Addr} (E : Fs w K mg C)
include E
theorem ok_allows_at : MeG P w K mg base C "_allows_at" 10 (SpD C (fun z : AA => [.lg z.L.D, .d (.tuple z.ev), .d (pd (z.i, z.j))]) (fun z r => ∃ b, AtR z.L z.nm z.lab z.pay (z.i, z.j) z.t z.box b ∧ r = .d (.bool b))) := by
  obtain ⟨f, fd, F, hm⟩ := E.m__allows_at
  refine (st_Ledger__allows_at F (fun _ => rfl) fun c I z => ?_).m hm
  have ok := I.ok
  have hN := I.N
  have hG := I.G
  have hL := I.Lo
  have bi := I.bi E.bi
  have ld := I.ld E.ld
  have f1 := I.fn (sp := fun C => SpD C _ _) (ok_head E) (by omega)
  have f2 := I.fn (sp := fun C => SpD C _ _) (ok_row_of E) (by omega)
  have f3 := I.me (sp := fun C => SpD C _ _) (ok_is_payload E) (by omega)
  have f4 := I.me (sp := fun C => SpD C _ _) (ok_is_oldest E) (by omega)
  obtain ⟨L, nm, lab, pay, i, j, t, box, hok, hnm, ht, htu, hb, ⟨mk, hpart⟩, hp, hms, hts⟩ := z
  rcases hnm with rfl | rfl | rfl | rfl | rfl
  · show DSs c [some (.r (.lg L.D)), some (.r (.d (.tuple [.str "drop", .int i, .int j]))), some (.r (.d (.tuple [.int i, .int j]))), none, none, none, none] (_ :: _) _
    wtm_at "w"
    exact ⟨true, by simp [AtR], rfl⟩
  · show DSs c [some (.r (.lg L.D)), some (.r (.d (.tuple [.str "close", .int i, .int j]))), some (.r (.d (.tuple [.int i, .int j]))), none, none, none, none] (_ :: _) _
    wtm_at "w"
    refine ⟨_, ix_dt (d := t.D) (by rw [show L.D.c.t = L.c.D.t from rfl, Lc.gt_t, ht]; rfl), ?_⟩
    wtm_at "w"
    refine ⟨⟨(L.tab, t), htu.toTA⟩, rfl, fun w hw => ?_⟩
    subst hw
    have hh := htu.toTA.non
    cases hd : headM L.tab t with
    | ref _ _ => rw [hd] at hh; cases hh
    | fin =>
      wtm_at "w"
      exact ⟨true, by simp [AtR, hd, Talk.tag], rfl⟩
    | act s rs =>
      cases s <;> (
        wtm_at "w"
        refine ⟨false, ?_, rfl⟩
        show AtR L "close" lab pay (i, j) t box false
        unfold AtR
        rw [if_neg (by decide), if_pos rfl, hd]
        first | exact (by decide +kernel : false = decide (("hear" : Str) = "end")) | exact (by decide +kernel : false = decide (("say" : Str) = "end")))
  · show DSs c [some (.r (.lg L.D)), some (.r (.d (.tuple [.str "told", .int i, .int j]))), some (.r (.d (.tuple [.int i, .int j]))), none, none, none, none] (_ :: _) _
    wtm_at "w"
    refine ⟨_, ix_dt (d := t.D) (by rw [show L.D.c.t = L.c.D.t from rfl, Lc.gt_t, ht]; rfl), ?_⟩
    wtm_at "w"
    refine ⟨⟨(L.tab, t), htu.toTA⟩, rfl, fun w hw => ?_⟩
    subst hw
    have hh := htu.toTA.non
    have hbx : lkp L.D.c.b (i, j) = some (boxD box) := by rw [show L.D.c.b = L.c.D.b from rfl, Lc.gt_b, hb]; rfl
    cases hd : headM L.tab t with
    | ref _ _ => rw [hd] at hh; cases hh
    | fin =>
      wtm_at "w"
      refine ⟨false, ?_, rfl⟩
      show AtR L "told" lab pay (i, j) t box false
      unfold AtR
      rw [if_neg (by decide), if_neg (by decide), if_pos rfl, hd]
      rfl
    | act s rs =>
      cases s
      · wtm_at "w"
        refine ⟨_, ix_dt hbx, ?_⟩
        refine ⟨!(box.map Msg.D).isEmpty, rfl, ?_⟩
        wtm_at "w"
        · rename_i hbe
          have hbe' : box.isEmpty = true := by cases box <;> first | rfl | cases hbe
          refine ⟨_, ix_dt (d := .str mk) (by rw [show L.D.c.m = L.c.D.m from rfl, Lc.gt_m, hpart]; rfl), ?_⟩
          wtm_at "w"
          refine ⟨decide (mk = "fallen"), ?_, by rw [eqv_str]⟩
          show AtR L "told" lab pay (i, j) t box _
          unfold AtR
          rw [if_neg (by decide), if_neg (by decide), if_pos rfl, hd, hpart, hbe']
          simp [Talk.tag, atag]
        · rename_i hbe
          have hbe' : box.isEmpty = false := by cases box <;> first | rfl | cases hbe
          refine ⟨false, ?_, rfl⟩
          show AtR L "told" lab pay (i, j) t box false
          unfold AtR
          rw [if_neg (by decide), if_neg (by decide), if_pos rfl, hd, hbe']
          simp
      · wtm_at "w"
        refine ⟨false, ?_, rfl⟩
        show AtR L "told" lab pay (i, j) t box false
        unfold AtR
        rw [if_neg (by decide), if_neg (by decide), if_pos rfl, hd]
        rfl
  · show DSs c [some (.r (.lg L.D)), some (.r (.d (.tuple [.str "say", .int i, .int j, lab, pay]))), some (.r (.d (.tuple [.int i, .int j]))), none, none, none, none] (_ :: _) _
    have hsay : ¬ Talk.fin.tag = ("say" : Str) := by decide
    have hbad : ∀ rs, ¬ (Talk.act false rs).tag = ("say" : Str) := fun _ => by show ¬ atag false = ("say" : Str); decide
    wtm_at "w"
    refine ⟨_, ix_dt (d := t.D) (by rw [show L.D.c.t = L.c.D.t from rfl, Lc.gt_t, ht]; rfl), ?_⟩
    wtm_at "w"
    refine ⟨⟨(L.tab, t), htu.toTA⟩, rfl, fun w hw => ?_⟩
    subst hw
    have hh := htu.toTA.non
    have hTU := htu.head
    cases hd : headM L.tab t with
    | ref _ _ => rw [hd] at hh; cases hh
    | fin =>
      wtm_at "w"
      exact ⟨false, AtR.tag (.inl rfl) (by rw [hd]; exact hsay), rfl⟩
    | act s rs =>
      rw [hd] at hTU
      cases hs : decide (s = true) with
      | false =>
        obtain rfl : s = false := by cases s <;> first | rfl | cases hs
        wtm_at "w"
        exact ⟨false, AtR.tag (.inl rfl) (by rw [hd]; exact hbad rs), rfl⟩
      | true =>
        obtain rfl : s = true := by cases s <;> first | rfl | cases hs
        cases hl : isStrD lab with
        | false =>
          wtm_at "w"
          all_goals first
            | exact ⟨false, AtR.lab (.inl rfl) hl, rfl⟩
            | (rename_i h; rw [hl] at h; cases h)
        | true =>
          obtain ⟨l, rfl⟩ : ∃ l, lab = .str l := by cases lab <;> first | exact ⟨_, rfl⟩ | cases hl
          wtm_at "w"
          refine ⟨⟨(.act true rs, l), rfl⟩, rfl, fun w hw => ?_⟩
          simp only [Talk.rows] at hw
          rcases e1 : rs.find l with _ | ⟨k1, u⟩
          · simp only [e1, rowD] at hw
            subst hw
            wtm_at "w"
            exact ⟨false, AtR.row (.inl rfl) (by rw [hd]; exact e1), rfl⟩
          · simp only [e1, rowD] at hw
            subst hw
            wtm_at "w"
            refine ⟨⟨L, k1, pay, i, j, hok, (hTU.next e1).2, hts⟩, rfl, fun w hw => ?_⟩
            obtain ⟨b, hb1, rfl⟩ := hw
            exact ⟨b, AtR.say (by rw [hd]; rfl) (by rw [hd]; exact e1) hb1, rfl⟩
  · show DSs c [some (.r (.lg L.D)), some (.r (.d (.tuple [.str "hear", .int i, .int j, lab, pay]))), some (.r (.d (.tuple [.int i, .int j]))), none, none, none, none] (_ :: _) _
    have hsay : ¬ Talk.fin.tag = ("hear" : Str) := by decide
    have hbad : ∀ rs, ¬ (Talk.act true rs).tag = ("hear" : Str) := fun _ => by show ¬ atag true = ("hear" : Str); decide
    wtm_at "w"
    refine ⟨_, ix_dt (d := t.D) (by rw [show L.D.c.t = L.c.D.t from rfl, Lc.gt_t, ht]; rfl), ?_⟩
    wtm_at "w"
    refine ⟨⟨(L.tab, t), htu.toTA⟩, rfl, fun w hw => ?_⟩
    subst hw
    have hh := htu.toTA.non
    have hTU := htu.head
    cases hd : headM L.tab t with
    | ref _ _ => rw [hd] at hh; cases hh
    | fin =>
      wtm_at "w"
      exact ⟨false, AtR.tag (.inr rfl) (by rw [hd]; exact hsay), rfl⟩
    | act s rs =>
      rw [hd] at hTU
      cases hs : decide (s = false) with
      | false =>
        obtain rfl : s = true := by cases s <;> first | rfl | cases hs
        wtm_at "w"
        exact ⟨false, AtR.tag (.inr rfl) (by rw [hd]; exact hbad rs), rfl⟩
      | true =>
        obtain rfl : s = false := by cases s <;> first | rfl | cases hs
        cases hl : isStrD lab with
        | false =>
          wtm_at "w"
          all_goals first
            | exact ⟨false, AtR.lab (.inr rfl) hl, rfl⟩
            | (rename_i h; rw [hl] at h; cases h)
        | true =>
          obtain ⟨l, rfl⟩ : ∃ l, lab = .str l := by cases lab <;> first | exact ⟨_, rfl⟩ | cases hl
          wtm_at "w"
          refine ⟨⟨(.act false rs, l), rfl⟩, rfl, fun w hw => ?_⟩
          simp only [Talk.rows] at hw
          rcases e1 : rs.find l with _ | ⟨k1, u⟩
          · simp only [e1, rowD] at hw
            subst hw
            wtm_at "w"
            exact ⟨false, AtR.row (.inr rfl) (by rw [hd]; exact e1), rfl⟩
          · simp only [e1, rowD] at hw
            subst hw
            wtm_at "w"
            refine ⟨⟨L, l, pay, i, j, box, hb, hp, hms⟩, rfl, fun w hw => ?_⟩
            subst hw
            exact ⟨_, AtR.hear (by rw [hd]; rfl) (by rw [hd]; exact e1), rfl⟩
end
/-! ## What allows answers -/
def nth (ds : List PD) (n : Nat) : PD := ds.getD n .none
theorem atI_n {ds : List PD} {n : Nat} (h : n < ds.length) : atI ds (n : Int) = some (nth ds n) := by
  unfold atI
  have e : ixN ds.length (n : Int) = some n := by unfold ixN; simp; omega
  rw [e]
  show ds[n]? = _
  rw [List.getElem?_eq_getElem h, nth, List.getD_eq_getElem?_getD, List.getElem?_eq_getElem h]
  rfl
theorem ix_tn {ds : List PD} {n : Nat} (h : n < ds.length) : ixW (.d (.tuple ds)) (.d (.int (n : Int))) = some (.d (nth ds n)) := by
  show (atI ds (n : Int)).map W.d = _
  rw [atI_n h]; rfl
theorem ix_ln {ds : List PD} {n : Nat} (h : n < ds.length) : ixW (.d (.list ds)) (.d (.int (n : Int))) = some (.d (nth ds n)) := by
  show (atI ds (n : Int)).map W.d = _
  rw [atI_n h]; rfl
theorem ix_t0 {x : PD} {ds : List PD} : ixW (.d (.tuple (x :: ds))) (.d (.int 0)) = some (.d x) := ix_tn (n := 0) (Nat.succ_pos _)
def AlR (L : Lg) (nm : Str) (ds : List PD) (b : Bool) : Prop :=
  if ¬ (partN nm).getD 0 = ((ds.length : Int) + 1) then b = false else
  if L.c.o ≠ [] ∧ nm ≠ "drop" then b = false else
  if nm = "open" then b = openM L (nth ds 0) (nth ds 1) (nth ds 2) (nth ds 3) else
  if nm = "become" ∨ nm = "done" ∨ nm = "fall" then b = runM L.c.f (nth ds 0) else
  match nth ds 0, nth ds 1 with
  | .int i, .int j => (match gt L.c.m (i, j) with
    | none => b = false
    | some mk => if nm = "drop" ∧ L.c.o.head? = some (i, j) then b = true else if mk ≠ "open" then b = false else
      ∃ t box, gt L.c.t (i, j) = some t ∧ gt L.c.b (i, j) = some box ∧ AtR L nm (nth ds 2) (nth ds 3) (i, j) t box b)
  | _, _ => b = false
theorem PayR.det {L : Lg} {k : Kind} {p : PD} {pl : Pl} {b b' : Bool} (h : PayR L k p pl b) (g : PayR L k p pl b') : b = b' := by
  cases k with
  | non => exact h.trans g.symm
  | int => exact h.trans g.symm
  | bool => exact h.trans g.symm
  | ref x n =>
    simp only [PayR] at h g
    cases e : endP p with
    | none => rw [e] at h g; exact h.trans g.symm
    | some q =>
      rw [e] at h g
      dsimp only at h g
      split at h
      · rename_i hc
        rw [if_pos hc] at g
        obtain ⟨t, h1, h2⟩ := h
        obtain ⟨t', g1, g2⟩ := g
        rw [h1] at g1; cases g1
        exact h2.det g2
      · rename_i hc
        rw [if_neg hc] at g
        exact h.trans g.symm
theorem AtR.det {L : Lg} {nm : Str} {lab pay : PD} {pl : Pl} {t : Talk} {box : List Msg} {b b' : Bool} (h : AtR L nm lab pay pl t box b) (g : AtR L nm lab pay pl t box b') : b = b' := by
  unfold AtR at h g
  split at h
  · rename_i hc; rw [if_pos hc] at g; exact h.trans g.symm
  · rename_i hc; rw [if_neg hc] at g
    split at h
    · rename_i hc; rw [if_pos hc] at g; exact h.trans g.symm
    · rename_i hc; rw [if_neg hc] at g
      split at h
      · rename_i hc; rw [if_pos hc] at g; exact h.trans g.symm
      · rename_i hc; rw [if_neg hc] at g
        cases lab with
        | str l =>
          dsimp only at h g
          split at h
          · rename_i hc; rw [if_pos hc] at g
            cases e : (headM L.tab t).rows.find l with
            | none => rw [e] at h g; exact h.trans g.symm
            | some q =>
              rw [e] at h g
              dsimp only at h g
              split at h
              · rename_i hc; rw [if_pos hc] at g; exact h.det g
              · rename_i hc; rw [if_neg hc] at g; exact h.trans g.symm
          · rename_i hc; rw [if_neg hc] at g; exact h.trans g.symm
        | _ => exact h.trans g.symm
theorem AlR.det {L : Lg} {nm : Str} {ds : List PD} {b b' : Bool} (h : AlR L nm ds b) (g : AlR L nm ds b') : b = b' := by
  unfold AlR at h g
  split at h
  · rename_i hc; rw [if_pos hc] at g; exact h.trans g.symm
  · rename_i hc; rw [if_neg hc] at g
    split at h
    · rename_i hc; rw [if_pos hc] at g; exact h.trans g.symm
    · rename_i hc; rw [if_neg hc] at g
      split at h
      · rename_i hc; rw [if_pos hc] at g; exact h.trans g.symm
      · rename_i hc; rw [if_neg hc] at g
        split at h
        · rename_i hc; rw [if_pos hc] at g; exact h.trans g.symm
        · rename_i hc; rw [if_neg hc] at g
          split at h
          · rename_i i j e1 e2
            rw [e1, e2] at g
            dsimp only at g
            cases e : gt L.c.m (i, j) with
            | none => rw [e] at h g; exact h.trans g.symm
            | some mk =>
              rw [e] at h g
              dsimp only at h g
              split at h
              · rename_i hc; rw [if_pos hc] at g; exact h.trans g.symm
              · rename_i hc; rw [if_neg hc] at g
                split at h
                · rename_i hc; rw [if_pos hc] at g; exact h.trans g.symm
                · rename_i hc; rw [if_neg hc] at g
                  obtain ⟨t, bx, h1, h2, h3⟩ := h
                  obtain ⟨t', bx', g1, g2, g3⟩ := g
                  rw [h1] at g1; cases g1
                  rw [h2] at g2; cases g2
                  exact h3.det g3
          · rename_i hne
            split at g
            · rename_i i j e1 e2
              exact absurd e2 (hne i j e1)
            · exact h.trans g.symm
/-! ## The plain law: one step -/
def canM (m : Msg) : Prop := gs m.1 = true ∧ PyData.canLay0 m.2 = true ∧ PyData.depth m.2 ≤ 8
theorem can_all : ∀ {a : List Msg}, (∀ m ∈ a, canM m) → PyData.canLayAll0 (a.map Msg.D) = true ∧ PyData.depthAll (a.map Msg.D) ≤ 10
  | [], _ => ⟨by simp [PyData.canLayAll0], by simp [PyData.depthAll]⟩
  | m :: a, h => by
    obtain ⟨g1, g2⟩ := can_all (a := a) fun m hm => h m (List.mem_cons_of_mem _ hm)
    obtain ⟨h1, h2, h3⟩ := h m List.mem_cons_self
    refine ⟨?_, ?_⟩
    · simp only [gs, PyData.canLay0] at h1
      simp only [List.map_cons, PyData.canLayAll0, Msg.D, PyData.canLay0, g1, h2, h1]
      rfl
    · simp only [List.map_cons, PyData.depthAll, Msg.D, PyData.depth]
      omega
theorem can_lay {a : List Msg} (h : ∀ m ∈ a, canM m) : PyData.canLay0 (.list (a.map Msg.D)) = true := by
  simp only [PyData.canLay0]
  exact (can_all h).1
theorem can_shaped {a : List Msg} (h : ∀ m ∈ a, canM m) : SeqAt.shaped (.list (a.map Msg.D)) = true := by
  refine shaped_of (can_lay h) ?_
  simp only [PyData.depth]
  have := (can_all h).2
  omega
def eqL (a b : List Msg) : Bool := PyData.eqv (.list (a.map Msg.D)) (.list (b.map Msg.D))
theorem eqL_refl {a : List Msg} (h : ∀ m ∈ a, canM m) : eqL a a = true := SeqAt.eqv_refl _ (can_lay h)
/-- what is noted of a side -/
structure Sr where
  st : List Ev
  sd : List Msg
  hd : List Msg
  lf : Bool
  fl : Bool
def Sr.zero : Sr := ⟨[], [], [], false, false⟩
def Sr.chk (s : Sr) : Option Sr := if eqL s.hd (s.sd.take s.hd.length) then some s else none
def Ev.conv : Ev → Option Int
  | .opn _ _ n _ _ => some n
  | .say i _ _ _ => some i
  | .hear i _ _ _ => some i
  | .told i _ => some i
  | .close i _ => some i
  | .drop i _ => some i
  | _ => none
def about (c : Int) (e : Ev) : Bool := decide (e.conv = some c)
def Ev.isOpn : Ev → Bool
  | .opn .. => true
  | _ => false
def sideS (j : Int) (s : Sr) : Ev → Option Sr
  | .say i j' x d => if j' = j then (if s.lf then none else ({ s with st := s.st ++ [.say i j' x d] } : Sr).chk) else some { s with sd := s.sd ++ [(x, d)] }
  | .hear i j' x d => if j' = j then (if s.lf then none else ({ s with st := s.st ++ [.hear i j' x d], hd := s.hd ++ [(x, d)] } : Sr).chk) else some s
  | .told _ j' => if j' = j then (if s.lf then none else if s.fl && eqL s.hd s.sd then ({ s with lf := true } : Sr).chk else none) else some s
  | .close _ j' => if j' = j then (if s.lf then none else ({ s with lf := true } : Sr).chk) else some s
  | .drop _ j' => if j' = j then (if s.lf then none else ({ s with lf := true } : Sr).chk) else some { s with fl := true }
  | _ => some s
def pathS (tab : Tab) (t : Talk) : Ev → Option Talk
  | .say _ _ x _ => match headM tab t with
    | .act true rs => (rs.find x).map (·.2)
    | _ => none
  | .hear _ _ x _ => match headM tab t with
    | .act false rs => (rs.find x).map (·.2)
    | _ => none
  | _ => none
def foldO {α β : Type} (f : α → β → Option α) : α → List β → Option α
  | a, [] => some a
  | a, b :: r => match f a b with
    | some a' => foldO f a' r
    | none => none
theorem foldO_snoc {α β : Type} {f : α → β → Option α} {b : β} {y : α} : ∀ {l : List β} {a x : α}, foldO f a l = some x → f x b = some y → foldO f a (l ++ [b]) = some y
  | [], a, x, h, g => by
    cases h
    show (match f a b with | some a' => foldO f a' [] | none => none) = _
    rw [g]; rfl
  | c :: l, a, x, h, g => by
    replace h : (match f a c with | some a' => foldO f a' l | none => none) = some x := h
    show (match f a c with | some a' => foldO f a' (l ++ [b]) | none => none) = _
    cases e : f a c with
    | none => rw [e] at h; cases h
    | some a' =>
      rw [e] at h
      exact foldO_snoc h g
/-! ### ends that are on their way -/
def bxE (b : List (Pl × List Msg)) : List Pl := b.flatMap fun e => endsM e.2
def Lc.ends (l : Lc) : List Pl := bxE l.b ++ l.o
theorem bxE_at {p : Pl} {box : List Msg} : ∀ {b : List (Pl × List Msg)}, (b.map (·.1)).Nodup → gt b p = some box → ∃ rest, (bxE b).Perm (endsM box ++ rest) ∧ ∀ box', (bxE (pt b p box')).Perm (endsM box' ++ rest)
  | [], _, h => by cases h
  | q :: r, nd, h => by
    rw [List.map_cons, List.nodup_cons] at nd
    obtain ⟨n1, n2⟩ := nd
    rw [gt_cons] at h
    by_cases e : q.1 = p
    · rw [if_pos e] at h
      cases h
      refine ⟨bxE r, List.Perm.refl _, fun box' => ?_⟩
      rw [pt_pos e fun q' hq' hk => n1 (by rw [e, ← hk]; exact List.mem_map.mpr ⟨q', hq', rfl⟩)]
      exact List.Perm.refl _
    · rw [if_neg e] at h
      obtain ⟨rest, h1, h2⟩ := bxE_at n2 h
      refine ⟨endsM q.2 ++ rest, ?_, fun box' => ?_⟩
      · show (endsM q.2 ++ bxE r).Perm _
        exact (List.Perm.append_left _ h1).trans (List.perm_append_comm_assoc _ _ _)
      · rw [pt_neg e]
        show (endsM q.2 ++ bxE (pt r p box')).Perm _
        exact (List.Perm.append_left _ (h2 box')).trans (List.perm_append_comm_assoc _ _ _)
theorem bxE_mem {p : Pl} {box : List Msg} {m : Msg} {g : Pl} {b : List (Pl × List Msg)} (h : gt b p = some box) (hm : m ∈ box) (hg : endP m.2 = some g) : g ∈ bxE b := by
  induction b with
  | nil => cases h
  | cons q r ih =>
    rw [gt_cons] at h
    show g ∈ endsM q.2 ++ bxE r
    split at h
    · cases h
      exact List.mem_append_left _ (List.mem_filterMap.mpr ⟨m, hm, hg⟩)
    · exact List.mem_append_right _ (ih h)
theorem endsM_app {a b : List Msg} : endsM (a ++ b) = endsM a ++ endsM b := by simp [endsM]
theorem endsM_one {x : Str} {d : PD} : endsM [(x, d)] = (endP d).toList := by
  simp only [endsM, List.filterMap_cons, List.filterMap_nil]
  cases endP d <;> rfl
theorem endsM_cons {x : Str} {d : PD} {r : List Msg} : endsM ((x, d) :: r) = (endP d).toList ++ endsM r := by
  rw [← endsM_one (x := x), ← endsM_app]; rfl
/-- what stays true of the whole -/
structure GInv (tab : Tab) (k : Nat) (L : Lg) : Prop where
  lc : LcOk tab k L.c
  tb : L.tab = tab
  nd : (L.c.b.map (·.1)).Nodup
  key : ∀ p, gt L.c.m p ≠ none → 0 ≤ p.1 ∧ p.1 < L.n ∧ (p.2 = 0 ∨ p.2 = 1)
  kk : ∀ i j : Int, 0 ≤ i → i < L.n → (j = 0 ∨ j = 1) → gt L.c.m (i, j) ≠ none
  kb : ∀ p, gt L.c.b p ≠ none → gt L.c.m p ≠ none
  u : L.c.ends.Nodup
  aw : ∀ g ∈ L.c.ends, gt L.c.m g = some "away"
section
variable {tab : Tab} {k : Nat} {L : Lg}
theorem markM_gt {m : List (Pl × Str)} {d : PD} {x : Str} {q : Pl} : gt (markM m d x) q = if endP d = some q then some x else gt m q := by
  unfold markM
  cases e : endP d with
  | none => simp
  | some g =>
    dsimp only
    rw [gt_pt]
    by_cases h : q = g
    · subst h; simp
    · rw [if_neg h, if_neg (fun z => h (Option.some.inj z).symm)]
theorem oth_oth (p : Pl) : oth (oth p) = p := by
  obtain ⟨i, j⟩ := p
  simp only [oth]
  congr 1
  omega
theorem oth_ne (p : Pl) : ¬ oth p = p := by
  obtain ⟨i, j⟩ := p
  intro e
  have := (Prod.mk.inj e).2
  simp only at this
  omega
theorem boxOf_eq {l : Lc} {p : Pl} {b : List Msg} (h : gt l.b p = some b) : boxOf l p = b := by unfold boxOf; rw [h]; rfl
theorem ends_say {l : Lc} {p : Pl} {x : Str} {d : PD} {u : Talk} (nd : (l.b.map (·.1)).Nodup) (hq : gt l.b (oth p) = some (boxOf l (oth p))) : (l.say p x d u).ends.Perm ((endP d).toList ++ l.ends) := by
  show (bxE (if takes l (oth p) then pt l.b (oth p) (boxOf l (oth p) ++ [(x, d)]) else l.b) ++ (if takes l (oth p) then l.o else l.o ++ (endP d).toList)).Perm _
  by_cases h : takes l (oth p) = true
  · rw [if_pos h, if_pos h]
    obtain ⟨rest, h1, h2⟩ := bxE_at nd hq
    have g := h2 (boxOf l (oth p) ++ [(x, d)])
    rw [endsM_app, endsM_one] at g
    refine (List.Perm.append_right _ g).trans ?_
    have e : ((endP d).toList ++ l.ends).Perm ((endP d).toList ++ ((endsM (boxOf l (oth p)) ++ rest) ++ l.o)) := List.Perm.append_left _ (List.Perm.append_right _ h1)
    refine List.Perm.trans ?_ e.symm
    simp only [List.append_assoc]
    exact (List.perm_append_comm_assoc _ _ _)
  · rw [if_neg h, if_neg h]
    rw [← List.append_assoc]
    exact List.perm_append_comm
theorem ends_hear {l : Lc} {p : Pl} {x : Str} {d : PD} {r : List Msg} {u : Talk} (nd : (l.b.map (·.1)).Nodup) (hp : gt l.b p = some ((x, d) :: r)) : l.ends.Perm ((endP d).toList ++ (l.hear p d u).ends) := by
  obtain ⟨rest, h1, h2⟩ := bxE_at nd hp
  show (bxE l.b ++ l.o).Perm ((endP d).toList ++ (bxE (pt l.b p (boxOf l p).tail) ++ l.o))
  rw [boxOf_eq hp, List.tail_cons]
  refine (List.Perm.append_right _ h1).trans ?_
  rw [endsM_cons]
  simp only [List.append_assoc]
  refine List.Perm.append_left _ ?_
  have e := List.Perm.append_right l.o (h2 r)
  rw [List.append_assoc] at e
  exact e.symm
theorem ends_leave {l : Lc} {p : Pl} {mk : Str} (nd : (l.b.map (·.1)).Nodup) (hp : gt l.b p = some (boxOf l p)) : l.ends.Perm ((if l.o.head? = some p then [p] else []) ++ (l.leave p mk).ends) := by
  obtain ⟨rest, h1, h2⟩ := bxE_at nd hp
  have h3 : (bxE (pt l.b p [])).Perm rest := h2 []
  show (bxE l.b ++ l.o).Perm (_ ++ (bxE (pt l.b p []) ++ ((if l.o.head? = some p then l.o.tail else l.o) ++ endsM (boxOf l p))))
  have e0 : l.o = (if l.o.head? = some p then [p] else []) ++ (if l.o.head? = some p then l.o.tail else l.o) := by
    split
    · rename_i h
      cases ho : l.o with
      | nil => rw [ho] at h; cases h
      | cons a r =>
        rw [ho] at h
        cases h
        rfl
    · rfl
  generalize hA : (if l.o.head? = some p then [p] else []) = A at e0 ⊢
  generalize hB : (if l.o.head? = some p then l.o.tail else l.o) = Bo at e0 ⊢
  rw [e0]
  have e1 : (bxE l.b ++ (A ++ Bo)).Perm (A ++ (bxE l.b ++ Bo)) := (List.perm_append_comm_assoc _ _ _)
  refine e1.trans (List.Perm.append_left _ ?_)
  have e2 : (bxE l.b ++ Bo).Perm ((endsM (boxOf l p) ++ rest) ++ Bo) := List.Perm.append_right _ h1
  refine e2.trans ?_
  have e3 : (endsM (boxOf l p) ++ rest ++ Bo).Perm (rest ++ Bo ++ endsM (boxOf l p)) := by
    rw [List.append_assoc]
    exact List.perm_append_comm
  refine e3.trans ?_
  rw [List.append_assoc]
  exact List.Perm.append_right _ h3.symm
theorem GInv.init (ok : tab.Ok) : GInv tab 0 (Lg.init tab) := ⟨LcOk.init ok, rfl, by simp [Lg.init], fun p hp => absurd rfl hp, fun i j h1 h2 => by simp [Lg.init] at h2; omega, fun p hp => absurd rfl hp, by simp [Lg.init, Lc.ends, bxE], fun g hg => by simp [Lg.init, Lc.ends, bxE] at hg⟩
theorem GInv.there (G : GInv tab k L) {p : Pl} (hp : gt L.c.m p ≠ none) : gt L.c.b p = some (boxOf L.c p) := G.lc.box hp
/-- the sides stay -/
theorem GInv.keep (G : GInv tab k L) {e : Ev} (hl : LcOk tab (k + 1) (L.c.app L.tab false e)) (hn : (L.app e).n = L.n) (hk : ∀ p, gt (L.c.app L.tab false e).m p ≠ none ↔ gt L.c.m p ≠ none) (hb : (L.c.app L.tab false e).b.map (·.1) = L.c.b.map (·.1))
    (hu : (L.c.app L.tab false e).ends.Nodup) (ha : ∀ g ∈ (L.c.app L.tab false e).ends, gt (L.c.app L.tab false e).m g = some "away") : GInv tab (k + 1) (L.app e) where
  lc := hl
  tb := G.tb
  nd := by show ((L.c.app L.tab false e).b.map (·.1)).Nodup; rw [hb]; exact G.nd
  key := fun p hp => by rw [hn]; exact G.key p ((hk p).mp hp)
  kk := fun i j h1 h2 h3 => (hk _).mpr (G.kk i j h1 (by rw [hn] at h2; exact h2) h3)
  kb := fun p hp => (hk p).mpr (G.kb p fun z => hp (gt_none.mpr fun q hq hqp => by
    have : q.1 ∈ (L.c.app L.tab false e).b.map (·.1) := List.mem_map.mpr ⟨q, hq, rfl⟩
    rw [hb] at this
    obtain ⟨q', hq', e'⟩ := List.mem_map.mp this
    exact gt_none.mp z q' hq' (e'.trans hqp)))
  u := hu
  aw := ha
theorem pt_keysk {κ β : Type} [DecidableEq κ] {k : κ} {d : β} {r : List (κ × β)} (h : gt r k ≠ none) : (pt r k d).map (·.1) = r.map (·.1) := by
  rw [pt_keys, if_pos]
  refine Classical.byContradiction fun g => h (gt_none.mpr fun q hq hk => g (List.any_eq_true.mpr ⟨q, hq, decide_eq_true hk⟩))
theorem GInv.leave (G : GInv tab k L) {e : Ev} {p : Pl} {mk : Str} (he : L.c.app L.tab false e = L.c.leave p mk) (hn : (L.app e).n = L.n) (hp : gt L.c.m p ≠ none) (ha : gt L.c.m p = some "open" ∨ L.c.o.head? = some p) : GInv tab (k + 1) (L.app e) := by
  have hbx := G.there hp
  have pm := ends_leave (mk := mk) G.nd hbx
  have nd := pm.nodup_iff.mp G.u
  have npe : p ∉ (L.c.leave p mk).ends := fun hm => by
    by_cases h : L.c.o.head? = some p
    · rw [if_pos h] at nd
      exact (List.nodup_cons.mp nd).1 hm
    · rcases ha with z | z
      · have := G.aw p (pm.symm.subset (List.mem_append_right _ hm))
        rw [z] at this
        cases this
      · exact h z
  refine G.keep (by rw [he]; exact G.lc.leave hp) hn (fun q => by rw [he]; exact gt_ptk hp) (by rw [he]; exact pt_keysk (some_ne hbx)) ?_ fun g hg => ?_
  · rw [he]
    exact (List.nodup_append.mp nd).2.1
  · rw [he] at hg ⊢
    have hne : ¬ g = p := fun z => npe (z ▸ hg)
    show gt (pt L.c.m p mk) g = _
    rw [gt_ne hne]
    exact G.aw g (pm.symm.subset (List.mem_append_right _ hg))
theorem GInv.app (G : GInv tab k L) {e : Ev} (a : Al tab L.c e) (hn : ∀ a c n x nm, e = .opn a c n x nm → n = L.n) : GInv tab (k + 1) (L.app e) := by
  have ht := G.tb
  have hl : LcOk tab (k + 1) (L.c.app L.tab false e) := by rw [ht]; exact G.lc.app a
  cases e with
  | opn a0 c n x nm =>
    obtain rfl := hn _ _ _ _ _ rfl
    obtain ⟨a1, a2, a3⟩ := a
    have km : ∀ q, gt (L.c.opn false L.n x nm).m q = if q = ((L.n : Int), 1) then some ("open" : Str) else if q = ((L.n : Int), 0) then some ("open" : Str) else gt L.c.m q := fun q => gt_two
    have b1 : gt L.c.b (L.n, 0) = none := Classical.byContradiction fun z => G.kb _ z a2
    have b2 : gt L.c.b (L.n, 1) = none := Classical.byContradiction fun z => G.kb _ z a3
    have be : (L.c.opn false L.n x nm).b = L.c.b ++ [(((L.n : Int), (0 : Int)), [])] ++ [(((L.n : Int), (1 : Int)), [])] := by
      show pt (pt L.c.b (L.n, 0) []) (L.n, 1) [] = _
      rw [pt_new b1, pt_new]
      rw [gt_app, b2]
      simp [gt]
    have ee : (L.c.opn false L.n x nm).ends = L.c.ends := by
      show bxE (L.c.opn false L.n x nm).b ++ L.c.o = bxE L.c.b ++ L.c.o
      rw [be]
      simp [bxE, endsM]
    refine ⟨hl, ht, ?_, fun p hp => ?_, fun i j h1 h2 h3 => ?_, fun p hp => ?_, by show (L.c.opn false L.n x nm).ends.Nodup; rw [ee]; exact G.u, fun g hg => ?_⟩
    · show ((pt (pt L.c.b (L.n, 0) []) (L.n, 1) []).map (·.1)).Nodup
      exact pt_nodup (pt_nodup G.nd)
    · show 0 ≤ p.1 ∧ p.1 < ((L.n + 1 : Nat) : Int) ∧ _
      replace hp : gt (L.c.opn false L.n x nm).m p ≠ none := hp
      rw [km] at hp
      split at hp
      · rename_i h; subst h; simp; omega
      · split at hp
        · rename_i h; subst h; simp; omega
        · have := G.key p hp; omega
    · show gt (L.c.opn false L.n x nm).m (i, j) ≠ none
      replace h2 : i < ((L.n + 1 : Nat) : Int) := h2
      rw [km]
      by_cases hi : i = L.n
      · subst hi
        rcases h3 with rfl | rfl <;> simp
      · have := G.kk i j h1 (by omega) h3
        split
        · simp
        · split
          · simp
          · exact this
    · show gt (L.c.opn false L.n x nm).m p ≠ none
      replace hp : gt (L.c.opn false L.n x nm).b p ≠ none := hp
      rw [km]
      split
      · simp
      · split
        · simp
        · rename_i h1 h2
          refine G.kb p ?_
          have : gt (L.c.opn false L.n x nm).b p = gt L.c.b p := by
            show gt (pt (pt L.c.b (L.n, 0) []) (L.n, 1) []) p = _
            rw [gt_ne h1, gt_ne h2]
          rwa [this] at hp
    · show gt (L.c.opn false L.n x nm).m g = _
      replace hg : g ∈ (L.c.opn false L.n x nm).ends := hg
      rw [ee] at hg
      have h := G.aw g hg
      have hk := G.key g (some_ne h)
      rw [km, if_neg (fun z => by subst z; simp at hk), if_neg (fun z => by subst z; simp at hk)]
      exact h
  | say i j x d =>
    have hp : gt L.c.m (i, j) ≠ none := some_ne a.here
    have hq := G.there (G.lc.pa _ hp)
    have pm := ends_say (x := x) (d := d) (u := nextT L.tab L.c (i, j) x) G.nd hq
    have hg : ∀ g, endP d = some g → gt L.c.m g ≠ none := fun g hg => some_ne (a.gv g hg).1
    refine G.keep hl rfl (fun q => markM_key hg q) ?_ (pm.nodup_iff.mpr ?_) fun g hgm => ?_
    · show (if takes L.c (oth (i, j)) then pt L.c.b (oth (i, j)) (boxOf L.c (oth (i, j)) ++ [(x, d)]) else L.c.b).map (·.1) = _
      split
      · exact pt_keysk (some_ne hq)
      · rfl
    · cases e : endP d with
      | none => exact G.u
      | some g =>
        refine List.nodup_cons.mpr ⟨fun hm => ?_, G.u⟩
        have h1 := G.aw g hm
        have h2 := (a.gv g e).1
        rw [h1] at h2
        cases h2
    · show gt (markM L.c.m d "away") g = _
      rw [markM_gt]
      split
      · rfl
      · rename_i hne
        refine G.aw g ?_
        rcases List.mem_append.mp (pm.subset hgm) with z | z
        · cases e : endP d with
          | none => rw [e] at z; cases z
          | some g' =>
            rw [e] at z
            obtain rfl := List.mem_singleton.mp z
            exact absurd e hne
        · exact z
  | hear i j x d =>
    obtain ⟨r, hb⟩ := a.box
    have pm := ends_hear (u := nextT L.tab L.c (i, j) x) G.nd hb
    have nd := pm.nodup_iff.mp G.u
    have hg : ∀ g, endP d = some g → gt L.c.m g = some "away" := fun g hg => G.aw g (List.mem_append_left _ (bxE_mem hb List.mem_cons_self hg))
    refine G.keep hl rfl (fun q => markM_key (fun g h => some_ne (hg g h)) q) (pt_keysk (some_ne hb)) (List.nodup_append.mp nd).2.1 fun g hgm => ?_
    show gt (markM L.c.m d "open") g = _
    rw [markM_gt, if_neg]
    · exact G.aw g (pm.symm.subset (List.mem_append_right _ hgm))
    · intro z
      rw [z] at nd
      exact (List.nodup_cons.mp nd).1 hgm
  | told i j => exact G.leave rfl rfl (some_ne a.1) (.inl a.1)
  | close i j =>
    have a' : gt L.c.m (i, j) = some "open" := a
    exact G.leave rfl rfl (some_ne a') (.inl a')
  | drop i j =>
    rcases a with a | a
    · exact G.leave rfl rfl (some_ne a) (.inl a)
    · exact G.leave rfl rfl a.1 (.inr a.2)
  | become a0 x => exact G.keep hl rfl (fun _ => Iff.rfl) rfl G.u G.aw
  | done a0 => exact G.keep hl rfl (fun _ => Iff.rfl) rfl G.u G.aw
  | fall a0 => exact G.keep hl rfl (fun _ => Iff.rfl) rfl G.u G.aw
end
/-! ## The plain law: a side's notes -/
structure SInv (tab : Tab) (kt : Talk) (l : Lc) (p : Pl) (s : Sr) : Prop where
  pre : ∃ r, s.sd = s.hd ++ r
  gd : ∀ m ∈ s.sd, canM m
  here : takes l p = true → s.lf = false ∧ s.sd = s.hd ++ boxOf l p
  fl : gt l.m (oth p) = some "fallen" → s.fl = true
  path : ∃ t, gt l.t p = some t ∧ foldO (pathS tab) kt s.st = some t
theorem chk_ok {s : Sr} (h : ∃ r, s.sd = s.hd ++ r) (g : ∀ m ∈ s.sd, canM m) : s.chk = some s := by
  obtain ⟨r, hr⟩ := h
  unfold Sr.chk
  rw [hr, List.take_left, eqL_refl fun m hm => g m (by rw [hr]; exact List.mem_append_left _ hm), if_pos rfl]
theorem takes_iff {l : Lc} {p : Pl} : takes l p = true ↔ gt l.m p = some "open" ∨ gt l.m p = some "away" := by
  unfold takes
  rw [Bool.or_eq_true, decide_eq_true_iff, decide_eq_true_iff]
section
variable {tab : Tab} {k : Nat} {L : Lg} {kt : Talk} {i j : Int} {s : Sr}
/-- nothing of the side's changes -/
theorem SInv.same {l l' : Lc} {p : Pl} (h : SInv tab kt l p s) (h1 : takes l' p = true → takes l p = true) (h2 : takes l' p = true → boxOf l' p = boxOf l p) (h3 : gt l'.m (oth p) = some "fallen" → gt l.m (oth p) = some "fallen") (h4 : gt l'.t p = gt l.t p) : SInv tab kt l' p s where
  pre := h.pre
  gd := h.gd
  here := fun t => by rw [h2 t]; exact h.here (h1 t)
  fl := fun t => h.fl (h3 t)
  path := by rw [h4]; exact h.path
theorem jj {j j0 : Int} (h1 : j = 0 ∨ j = 1) (h2 : j0 = 0 ∨ j0 = 1) (h : ¬ j0 = j) : j0 = 1 - j := by omega
theorem leave_t {l : Lc} {p q : Pl} {mk : Str} (h : takes (l.leave q mk) p = true) (hne : ¬ p = q) : takes l p = true ∧ boxOf (l.leave q mk) p = boxOf l p := by
  have e1 : gt (l.leave q mk).m p = gt l.m p := gt_ne hne
  have e2 : gt (l.leave q mk).b p = gt l.b p := gt_ne hne
  refine ⟨?_, ?_⟩
  · rw [takes_iff] at h ⊢; rw [e1] at h; exact h
  · unfold boxOf; rw [e2]
/-- told, close, drop elsewhere -/
theorem SInv.leaveO {l : Lc} {p q : Pl} {mk : Str} (h : SInv tab kt l p s) (hne : ¬ p = q) (hm : oth p = q → mk ≠ "fallen") : SInv tab kt (l.leave q mk) p s := by
  refine h.same (fun t => (leave_t t hne).1) (fun t => (leave_t t hne).2) (fun e => ?_) rfl
  have e1 : gt (pt l.m q mk) (oth p) = some "fallen" := e
  by_cases hq : oth p = q
  · rw [hq, gt_same] at e1
    exact absurd (Option.some.inj e1) (hm hq)
  · rwa [gt_ne hq] at e1
theorem SInv.leaveH {l : Lc} {p : Pl} {mk : Str} {s' : Sr} (h : SInv tab kt l p s) (h1 : mk ≠ "open") (h2 : mk ≠ "away") (e1 : s'.st = s.st) (e2 : s'.sd = s.sd) (e3 : s'.hd = s.hd) (e4 : s'.fl = s.fl) : SInv tab kt (l.leave p mk) p s' := by
  refine ⟨by rw [e2, e3]; exact h.pre, by rw [e2]; exact h.gd, fun t => ?_, fun t => ?_, by rw [e1]; exact h.path⟩
  · exfalso
    have e : gt (l.leave p mk).m p = some mk := gt_same
    rw [takes_iff, e] at t
    rcases t with t | t
    · exact h1 (Option.some.inj t)
    · exact h2 (Option.some.inj t)
  · rw [e4]
    have e : gt (l.leave p mk).m (oth p) = gt l.m (oth p) := gt_ne (oth_ne p)
    rw [e] at t
    exact h.fl t
theorem SInv.app (G : GInv tab k L) {e : Ev} (a : Al tab L.c e) (gd : e.good) (hn : ∀ a c n x nm, e = .opn a c n x nm → n = L.n) (hi : 0 ≤ i ∧ i < L.n) (hj : j = 0 ∨ j = 1) (h : SInv tab kt L.c (i, j) s) :
    if about i e then ∃ s', sideS j s e = some s' ∧ SInv tab kt (L.app e).c (i, j) s' else SInv tab kt (L.app e).c (i, j) s := by
  have ht := G.tb
  have hk : gt L.c.m (i, j) ≠ none := G.kk i j hi.1 hi.2 hj
  have hb := G.there hk
  show if about i e then ∃ s', sideS j s e = some s' ∧ SInv tab kt (L.c.app L.tab false e) (i, j) s' else SInv tab kt (L.c.app L.tab false e) (i, j) s
  rw [ht]
  have away : ∀ {p0 : Pl} {x : Str} {d : PD} {g : Pl} {r : List Msg}, gt L.c.b p0 = some ((x, d) :: r) → endP d = some g → gt L.c.m g = some "away" := fun h1 h2 => G.aw _ (List.mem_append_left _ (bxE_mem h1 List.mem_cons_self h2))
  cases e with
  | opn a0 c n x nm =>
    obtain rfl := hn _ _ _ _ _ rfl
    have hab : about i (.opn a0 c L.n x nm) = false := by
      unfold about Ev.conv
      refine decide_eq_false fun z => ?_
      have := Option.some.inj z
      omega
    rw [hab]
    show SInv tab kt (L.c.opn false L.n x nm) (i, j) s
    have ne : ∀ {q : Pl} {y : Int}, q.1 < L.n → ¬ q = ((L.n : Int), y) := fun h z => by subst z; simp at h
    have n1 : ((i, j) : Pl).1 < L.n := hi.2
    have n2 : (oth ((i, j) : Pl)).1 < L.n := hi.2
    have em : ∀ {q : Pl}, q.1 < L.n → gt (L.c.opn false L.n x nm).m q = gt L.c.m q := fun {q} h => by
      show gt (pt (pt L.c.m (L.n, 0) "open") (L.n, 1) "open") q = _
      rw [gt_ne (ne h), gt_ne (ne h)]
    refine h.same (fun t => ?_) (fun _ => ?_) (fun t => ?_) ?_
    · rw [takes_iff, em n1] at t; exact takes_iff.mpr t
    · unfold boxOf
      show (gt (pt (pt L.c.b (L.n, 0) []) (L.n, 1) []) (i, j)).getD [] = _
      rw [gt_ne (ne n1), gt_ne (ne n1)]
    · rw [em n2] at t; exact t
    · show gt (pt (pt L.c.t (L.n, 0) (.ref (!x) nm)) (L.n, 1) (.ref x nm)) (i, j) = _
      rw [gt_ne (ne n1), gt_ne (ne n1)]
  | say i0 j0 x d =>
    have hp : gt L.c.m (i0, j0) ≠ none := some_ne a.here
    obtain ⟨t, rs, kd, u, r1, r2, r3⟩ := a.row
    obtain ⟨hnx, _, _⟩ := G.lc.next r1 hp r2 r3
    have hky := G.key _ hp
    show if about i (.say i0 j0 x d) then ∃ s', sideS j s (.say i0 j0 x d) = some s' ∧ SInv tab kt (L.c.say (i0, j0) x d (nextT tab L.c (i0, j0) x)) (i, j) s' else SInv tab kt (L.c.say (i0, j0) x d (nextT tab L.c (i0, j0) x)) (i, j) s
    rw [hnx]
    have tk : ∀ q, takes (L.c.say (i0, j0) x d u) q = true → takes L.c q = true := fun q t => by
      rw [takes_iff] at t ⊢
      replace t : gt (markM L.c.m d "away") q = some "open" ∨ gt (markM L.c.m d "away") q = some "away" := t
      rw [markM_gt] at t
      split at t
      · rename_i hq
        exact .inl (a.gv q hq).1
      · exact t
    have fl : ∀ q, gt (L.c.say (i0, j0) x d u).m q = some "fallen" → gt L.c.m q = some "fallen" := fun q t => by
      replace t : gt (markM L.c.m d "away") q = some "fallen" := t
      rw [markM_gt] at t
      split at t
      · cases t
      · exact t
    have bx : ∀ q, ¬ q = oth (i0, j0) → boxOf (L.c.say (i0, j0) x d u) q = boxOf L.c q := fun q hq => by
      unfold boxOf
      show (gt (if takes L.c (oth (i0, j0)) then pt L.c.b (oth (i0, j0)) (boxOf L.c (oth (i0, j0)) ++ [(x, d)]) else L.c.b) q).getD [] = _
      split
      · rw [gt_ne hq]
      · rfl
    have tt : ∀ q, ¬ q = (i0, j0) → gt (L.c.say (i0, j0) x d u).t q = gt L.c.t q := fun q hq => gt_ne hq
    by_cases e1 : i0 = i
    · subst e1
      have hab : about i0 (.say i0 j0 x d) = true := decide_eq_true rfl
      rw [hab, if_pos rfl]
      by_cases e2 : j0 = j
      · subst e2
        obtain ⟨g1, g2⟩ := h.here (takes_iff.mpr (.inl a.here))
        have hc := chk_ok (s := { s with st := s.st ++ [.say i0 j0 x d] }) h.pre h.gd
        refine ⟨{ s with st := s.st ++ [.say i0 j0 x d] }, ?_, ⟨h.pre, h.gd, fun t => ?_, fun t => h.fl (fl _ t), ?_⟩⟩
        · unfold sideS; dsimp only
          rw [if_pos rfl, if_neg (by rw [g1]; decide)]
          exact hc
        · obtain ⟨g3, g4⟩ := h.here (tk _ t)
          exact ⟨g3, by rw [bx _ (fun z => oth_ne _ z.symm)]; exact g4⟩
        · obtain ⟨t', e3, e4⟩ := h.path
          rw [r1] at e3; cases e3
          refine ⟨u, gt_same, foldO_snoc e4 ?_⟩
          simp only [pathS, r2, r3, Option.map_some]
      · have ej := jj hj hky.2.2 e2
        subst ej
        have eo : oth (i0, 1 - j) = (i0, j) := oth_oth (i0, j)
        refine ⟨{ s with sd := s.sd ++ [(x, d)] }, by simp only [sideS]; rw [if_neg e2], ⟨?_, ?_, fun t => ?_, fun t => h.fl (fl _ t), ?_⟩⟩
        · obtain ⟨r, hr⟩ := h.pre
          exact ⟨r ++ [(x, d)], by show s.sd ++ [(x, d)] = s.hd ++ (r ++ [(x, d)]); rw [hr, List.append_assoc]⟩
        · intro m hm
          rcases List.mem_append.mp hm with z | z
          · exact h.gd m z
          · obtain rfl := List.mem_singleton.mp z
            exact gd
        · have t0 := tk _ t
          obtain ⟨g3, g4⟩ := h.here t0
          refine ⟨g3, ?_⟩
          have : boxOf (L.c.say (i0, 1 - j) x d u) (i0, j) = boxOf L.c (i0, j) ++ [(x, d)] := by
            unfold boxOf
            show (gt (if takes L.c (oth (i0, 1 - j)) then pt L.c.b (oth (i0, 1 - j)) (boxOf L.c (oth (i0, 1 - j)) ++ [(x, d)]) else L.c.b) (i0, j)).getD [] = _
            rw [eo, t0, if_pos rfl, gt_same]
            rfl
          rw [this]
          show s.sd ++ [(x, d)] = s.hd ++ (boxOf L.c (i0, j) ++ [(x, d)])
          rw [g4, List.append_assoc]
        · rw [tt _ (fun z => e2 (Prod.mk.inj z).2.symm)]
          exact h.path
    · have hab : about i (.say i0 j0 x d) = false := decide_eq_false fun z => e1 (Option.some.inj z)
      rw [hab]
      exact h.same (fun t => tk _ t) (fun _ => bx _ fun z => e1 (Prod.mk.inj z).1.symm) (fun t => fl _ t) (tt _ fun z => e1 (Prod.mk.inj z).1.symm)
  | hear i0 j0 x d =>
    have hp : gt L.c.m (i0, j0) ≠ none := some_ne a.here
    obtain ⟨t, rs, kd, u, r1, r2, r3⟩ := a.row
    obtain ⟨r, hbx⟩ := a.box
    obtain ⟨hnx, _, _⟩ := G.lc.next r1 hp r2 r3
    have hky := G.key _ hp
    show if about i (.hear i0 j0 x d) then ∃ s', sideS j s (.hear i0 j0 x d) = some s' ∧ SInv tab kt (L.c.hear (i0, j0) d (nextT tab L.c (i0, j0) x)) (i, j) s' else SInv tab kt (L.c.hear (i0, j0) d (nextT tab L.c (i0, j0) x)) (i, j) s
    rw [hnx]
    have tk : ∀ q, takes (L.c.hear (i0, j0) d u) q = true → takes L.c q = true := fun q t => by
      rw [takes_iff] at t ⊢
      replace t : gt (markM L.c.m d "open") q = some "open" ∨ gt (markM L.c.m d "open") q = some "away" := t
      rw [markM_gt] at t
      split at t
      · rename_i hq
        exact .inr (away hbx hq)
      · exact t
    have fl : ∀ q, gt (L.c.hear (i0, j0) d u).m q = some "fallen" → gt L.c.m q = some "fallen" := fun q t => by
      replace t : gt (markM L.c.m d "open") q = some "fallen" := t
      rw [markM_gt] at t
      split at t
      · cases t
      · exact t
    have bx : ∀ q, ¬ q = (i0, j0) → boxOf (L.c.hear (i0, j0) d u) q = boxOf L.c q := fun q hq => by
      unfold boxOf
      show (gt (pt L.c.b (i0, j0) _) q).getD [] = _
      rw [gt_ne hq]
    have tt : ∀ q, ¬ q = (i0, j0) → gt (L.c.hear (i0, j0) d u).t q = gt L.c.t q := fun q hq => gt_ne hq
    by_cases e1 : i0 = i
    · subst e1
      have hab : about i0 (.hear i0 j0 x d) = true := decide_eq_true rfl
      rw [hab, if_pos rfl]
      by_cases e2 : j0 = j
      · subst e2
        obtain ⟨g1, g2⟩ := h.here (takes_iff.mpr (.inl a.here))
        rw [boxOf_eq hbx] at g2
        have pre : ∃ r, s.sd = (s.hd ++ [(x, d)]) ++ r := ⟨r, by rw [g2, List.append_assoc]; rfl⟩
        have hc := chk_ok (s := { s with st := s.st ++ [.hear i0 j0 x d], hd := s.hd ++ [(x, d)] }) pre h.gd
        refine ⟨{ s with st := s.st ++ [.hear i0 j0 x d], hd := s.hd ++ [(x, d)] }, ?_, ⟨pre, h.gd, fun t => ⟨g1, ?_⟩, fun t => h.fl (fl _ t), ?_⟩⟩
        · unfold sideS; dsimp only
          rw [if_pos rfl, if_neg (by rw [g1]; decide)]
          exact hc
        · have : boxOf (L.c.hear (i0, j0) d u) (i0, j0) = r := by
            unfold boxOf
            show (gt (pt L.c.b (i0, j0) (boxOf L.c (i0, j0)).tail) (i0, j0)).getD [] = _
            rw [gt_same, boxOf_eq hbx]
            rfl
          rw [this]
          show s.sd = (s.hd ++ [(x, d)]) ++ r
          rw [g2, List.append_assoc]; rfl
        · obtain ⟨t', e3, e4⟩ := h.path
          rw [r1] at e3; cases e3
          refine ⟨u, gt_same, foldO_snoc e4 ?_⟩
          simp only [pathS, r2, r3, Option.map_some]
      · refine ⟨s, by simp only [sideS]; rw [if_neg e2], ?_⟩
        exact h.same (fun t => tk _ t) (fun _ => bx _ fun z => e2 (Prod.mk.inj z).2.symm) (fun t => fl _ t) (tt _ fun z => e2 (Prod.mk.inj z).2.symm)
    · have hab : about i (.hear i0 j0 x d) = false := decide_eq_false fun z => e1 (Option.some.inj z)
      rw [hab]
      exact h.same (fun t => tk _ t) (fun _ => bx _ fun z => e1 (Prod.mk.inj z).1.symm) (fun t => fl _ t) (tt _ fun z => e1 (Prod.mk.inj z).1.symm)
  | told i0 j0 =>
    obtain ⟨a1, a2, a3⟩ := a
    have hky := G.key _ (some_ne a1)
    show if about i (.told i0 j0) then ∃ s', sideS j s (.told i0 j0) = some s' ∧ SInv tab kt (L.c.leave (i0, j0) "closed") (i, j) s' else SInv tab kt (L.c.leave (i0, j0) "closed") (i, j) s
    by_cases e1 : i0 = i
    · subst e1
      have hab : about i0 (.told i0 j0) = true := decide_eq_true rfl
      rw [hab, if_pos rfl]
      by_cases e2 : j0 = j
      · subst e2
        obtain ⟨g1, g2⟩ := h.here (takes_iff.mpr (.inl a1))
        rw [boxOf_eq a2, List.append_nil] at g2
        have g3 : s.fl = true := h.fl a3
        have g4 : eqL s.hd s.sd = true := by rw [g2]; exact eqL_refl fun m hm => h.gd m (by rw [g2]; exact hm)
        have hc := chk_ok (s := { s with lf := true }) h.pre h.gd
        refine ⟨{ s with lf := true }, ?_, h.leaveH (s' := { s with lf := true }) (by decide) (by decide) rfl rfl rfl rfl⟩
        unfold sideS; dsimp only
        rw [if_pos rfl, if_neg (by rw [g1]; decide), if_pos (by rw [g3, g4]; rfl)]
        exact hc
      · refine ⟨s, by simp only [sideS]; rw [if_neg e2], h.leaveO (fun z => e2 (Prod.mk.inj z).2.symm) fun _ => by decide⟩
    · have hab : about i (.told i0 j0) = false := decide_eq_false fun z => e1 (Option.some.inj z)
      rw [hab]
      exact h.leaveO (fun z => e1 (Prod.mk.inj z).1.symm) fun _ => by decide
  | close i0 j0 =>
    have a1 : gt L.c.m (i0, j0) = some "open" := a
    have hky := G.key _ (some_ne a1)
    show if about i (.close i0 j0) then ∃ s', sideS j s (.close i0 j0) = some s' ∧ SInv tab kt (L.c.leave (i0, j0) "closed") (i, j) s' else SInv tab kt (L.c.leave (i0, j0) "closed") (i, j) s
    by_cases e1 : i0 = i
    · subst e1
      have hab : about i0 (.close i0 j0) = true := decide_eq_true rfl
      rw [hab, if_pos rfl]
      by_cases e2 : j0 = j
      · subst e2
        obtain ⟨g1, g2⟩ := h.here (takes_iff.mpr (.inl a1))
        have hc := chk_ok (s := { s with lf := true }) h.pre h.gd
        refine ⟨{ s with lf := true }, ?_, h.leaveH (s' := { s with lf := true }) (by decide) (by decide) rfl rfl rfl rfl⟩
        unfold sideS; dsimp only
        rw [if_pos rfl, if_neg (by rw [g1]; decide)]
        exact hc
      · refine ⟨s, by simp only [sideS]; rw [if_neg e2], h.leaveO (fun z => e2 (Prod.mk.inj z).2.symm) fun _ => by decide⟩
    · have hab : about i (.close i0 j0) = false := decide_eq_false fun z => e1 (Option.some.inj z)
      rw [hab]
      exact h.leaveO (fun z => e1 (Prod.mk.inj z).1.symm) fun _ => by decide
  | drop i0 j0 =>
    have hk0 : gt L.c.m (i0, j0) ≠ none := by
      rcases a with a | a
      · exact some_ne a
      · exact a.1
    have hky := G.key _ hk0
    show if about i (.drop i0 j0) then ∃ s', sideS j s (.drop i0 j0) = some s' ∧ SInv tab kt (L.c.leave (i0, j0) "fallen") (i, j) s' else SInv tab kt (L.c.leave (i0, j0) "fallen") (i, j) s
    by_cases e1 : i0 = i
    · subst e1
      have hab : about i0 (.drop i0 j0) = true := decide_eq_true rfl
      rw [hab, if_pos rfl]
      by_cases e2 : j0 = j
      · subst e2
        have tk : takes L.c (i0, j0) = true := by
          rw [takes_iff]
          rcases a with a | a
          · exact .inl a
          · refine .inr (G.aw _ (List.mem_append_right _ ?_))
            cases ho : L.c.o with
            | nil => rw [ho] at a; cases a.2
            | cons y ys =>
              rw [ho] at a
              cases a.2
              exact List.mem_cons_self
        obtain ⟨g1, g2⟩ := h.here tk
        have hc := chk_ok (s := { s with lf := true }) h.pre h.gd
        refine ⟨{ s with lf := true }, ?_, h.leaveH (s' := { s with lf := true }) (by decide) (by decide) rfl rfl rfl rfl⟩
        unfold sideS; dsimp only
        rw [if_pos rfl, if_neg (by rw [g1]; decide)]
        exact hc
      · refine ⟨{ s with fl := true }, by simp only [sideS]; rw [if_neg e2], ?_⟩
        have hne : ¬ (i0, j) = (i0, j0) := fun z => e2 (Prod.mk.inj z).2.symm
        refine ⟨h.pre, h.gd, fun t => ?_, fun _ => rfl, h.path⟩
        obtain ⟨t1, t2⟩ := leave_t t hne
        rw [t2]
        exact h.here t1
    · have hab : about i (.drop i0 j0) = false := decide_eq_false fun z => e1 (Option.some.inj z)
      rw [hab]
      exact h.leaveO (fun z => e1 (Prod.mk.inj z).1.symm) fun z => absurd (Prod.mk.inj z).1.symm e1
  | become a0 x =>
    have hab : about i (.become a0 x) = false := decide_eq_false fun z => by cases z
    rw [hab]
    exact h
  | done a0 =>
    have hab : about i (.done a0) = false := decide_eq_false fun z => by cases z
    rw [hab]
    exact h.same id (fun _ => rfl) id rfl
  | fall a0 =>
    have hab : about i (.fall a0) = false := decide_eq_false fun z => by cases z
    rw [hab]
    exact h.same id (fun _ => rfl) id rfl
end
/-! ## The plain law: a whole trace -/
def ktM (j : Int) (x : Bool) (nm : Str) : Talk := if j = 0 then .ref (!x) nm else .ref x nm
structure RInv (tab : Tab) (es : List Ev) (L : Lg) : Prop where
  g : GInv tab es.length L
  no : (es.filter Ev.isOpn).length = L.n
  cv : ∀ e ∈ es, ∀ c, e.conv = some c → 0 ≤ c ∧ c < L.n
  sd : ∀ c : Nat, c < L.n → ∃ a cc x nm tl, (es.filter Ev.isOpn)[c]? = some (.opn a cc (c : Int) x nm) ∧ es.filter (about c) = .opn a cc (c : Int) x nm :: tl ∧ (tab.get nm).isSome = true ∧
    ∀ j : Int, j = 0 ∨ j = 1 → ∃ s, foldO (sideS j) Sr.zero (es.filter (about c)) = some s ∧ SInv tab (ktM j x nm) L.c ((c : Int), j) s
theorem Ev.conv_key {tab : Tab} {k : Nat} {L : Lg} (G : GInv tab k L) {e : Ev} (a : Al tab L.c e) (hn : ∀ a c n x nm, e = .opn a c n x nm → n = L.n) : ∀ c, e.conv = some c → 0 ≤ c ∧ (c < L.n ∨ (c = L.n ∧ e.isOpn = true)) := by
  have key : ∀ {i j : Int}, gt L.c.m (i, j) ≠ none → 0 ≤ i ∧ i < L.n := fun h => ⟨(G.key _ h).1, (G.key _ h).2.1⟩
  intro c hc
  cases e with
  | opn a0 cc n x nm =>
    obtain rfl := hn _ _ _ _ _ rfl
    cases hc
    exact ⟨by omega, .inr ⟨rfl, rfl⟩⟩
  | say i j x d => cases hc; exact ⟨(key (some_ne a.here)).1, .inl (key (some_ne a.here)).2⟩
  | hear i j x d => cases hc; exact ⟨(key (some_ne a.here)).1, .inl (key (some_ne a.here)).2⟩
  | told i j => cases hc; exact ⟨(key (some_ne a.1)).1, .inl (key (some_ne a.1)).2⟩
  | close i j =>
    have a' : gt L.c.m (i, j) = some "open" := a
    cases hc
    exact ⟨(key (some_ne a')).1, .inl (key (some_ne a')).2⟩
  | drop i j =>
    cases hc
    rcases a with a | a
    · exact ⟨(key (some_ne a)).1, .inl (key (some_ne a)).2⟩
    · exact ⟨(key a.1).1, .inl (key a.1).2⟩
  | become a0 x => cases hc
  | done a0 => cases hc
  | fall a0 => cases hc
theorem Run.inv {tab : Tab} (ok : tab.Ok) {es : List Ev} {L : Lg} (h : Run tab es L) : (∀ e ∈ es, e.good) → RInv tab es L := by
  induction h with
  | nil => exact fun _ => ⟨GInv.init ok, rfl, fun e he => (by cases he), fun c hc => (by simp [Lg.init] at hc)⟩
  | @snoc es L e _ a hn ih =>
    intro hg
    have I := ih fun e' he => hg e' (List.mem_append_left _ he)
    have gd : e.good := hg e (List.mem_append_right _ (List.mem_singleton.mpr rfl))
    have G' : GInv tab (es ++ [e]).length (L.app e) := by rw [List.length_append]; exact I.g.app a hn
    have nn : (L.app e).n = if e.isOpn then L.n + 1 else L.n := by cases e <;> rfl
    have old : ∀ c : Nat, c < L.n → ∃ a cc x nm tl, ((es ++ [e]).filter Ev.isOpn)[c]? = some (.opn a cc (c : Int) x nm) ∧ (es ++ [e]).filter (about c) = .opn a cc (c : Int) x nm :: tl ∧ (tab.get nm).isSome = true ∧
        ∀ j : Int, j = 0 ∨ j = 1 → ∃ s, foldO (sideS j) Sr.zero ((es ++ [e]).filter (about c)) = some s ∧ SInv tab (ktM j x nm) (L.app e).c ((c : Int), j) s := by
      intro c hc
      obtain ⟨a0, cc, x, nm, tl, h1, h2, h3, h4⟩ := I.sd c hc
      refine ⟨a0, cc, x, nm, tl ++ [e].filter (about c), ?_, ?_, h3, fun j hj => ?_⟩
      · rw [List.filter_append, List.getElem?_append_left (by rw [I.no]; exact hc)]
        exact h1
      · rw [List.filter_append, h2]; rfl
      · obtain ⟨s, h5, h6⟩ := h4 j hj
        have st := h6.app I.g a gd hn ⟨by omega, by omega⟩ hj
        rw [List.filter_append]
        by_cases hab : about c e = true
        · rw [if_pos hab] at st
          obtain ⟨s', g1, g2⟩ := st
          refine ⟨s', ?_, g2⟩
          rw [List.filter_cons_of_pos hab]
          exact foldO_snoc h5 g1
        · rw [if_neg hab] at st
          refine ⟨s, ?_, st⟩
          rw [List.filter_cons_of_neg hab, List.filter_nil, List.append_nil]
          exact h5
    refine ⟨G', ?_, fun e' he c hc => ?_, fun c hc => ?_⟩
    · rw [List.filter_append, List.length_append, I.no, nn]
      cases e <;> rfl
    · rw [nn]
      rcases List.mem_append.mp he with z | z
      · have := I.cv e' z c hc
        split <;> omega
      · obtain rfl := List.mem_singleton.mp z
        obtain ⟨g1, g2⟩ := Ev.conv_key I.g a hn c hc
        rcases g2 with g2 | ⟨g2, g3⟩
        · split <;> omega
        · rw [if_pos g3]; omega
    · by_cases hcl : c < L.n
      · exact old c hcl
      · rw [nn] at hc
        have hop : e.isOpn = true := by
          cases h : e.isOpn with
          | true => rfl
          | false => rw [h] at hc; exact absurd hc hcl
        rw [if_pos hop] at hc
        obtain rfl : c = L.n := by omega
        cases e with
        | opn a0 cc n x nm =>
          obtain rfl := hn _ _ _ _ _ rfl
          have hf : es.filter (about (L.n : Int)) = [] := List.filter_eq_nil_iff.mpr fun e' he' hab => by
            have := I.cv e' he' _ (of_decide_eq_true hab)
            omega
          have hab : about (L.n : Int) (.opn a0 cc L.n x nm) = true := decide_eq_true rfl
          have hfl : (es ++ [Ev.opn a0 cc L.n x nm]).filter (about (L.n : Int)) = [.opn a0 cc L.n x nm] := by
            rw [List.filter_append, hf, List.filter_cons_of_pos hab]; rfl
          refine ⟨a0, cc, x, nm, [], ?_, hfl, a.1, fun j hj => ?_⟩
          · rw [List.filter_append, List.getElem?_append_right (by rw [I.no]; exact Nat.le_refl _), I.no, Nat.sub_self]
            rfl
          · rw [hfl]
            refine ⟨Sr.zero, rfl, ⟨⟨[], rfl⟩, fun m hm => (by cases hm), fun _ => ⟨rfl, ?_⟩, fun t => ?_, ?_⟩⟩
            · show [] = [] ++ (gt (pt (pt L.c.b (L.n, 0) []) (L.n, 1) []) ((L.n : Int), j)).getD []
              rw [gt_two]
              rcases hj with rfl | rfl <;> simp
            · exfalso
              replace t : gt (pt (pt L.c.m (L.n, 0) "open") (L.n, 1) "open") (oth ((L.n : Int), j)) = some "fallen" := t
              rw [gt_two] at t
              rcases hj with rfl | rfl
              · rw [if_pos (by simp [oth])] at t; cases t
              · rw [if_neg (by simp [oth]), if_pos (by simp [oth])] at t; cases t
            · refine ⟨ktM j x nm, ?_, rfl⟩
              show gt (pt (pt L.c.t (L.n, 0) (.ref (!x) nm)) (L.n, 1) (.ref x nm)) ((L.n : Int), j) = _
              rw [gt_two]
              rcases hj with rfl | rfl
              · rw [if_neg (by simp), if_pos rfl]; rfl
              · rw [if_pos rfl]; rfl
        | _ => cases hop
structure EvA where
  nm : Str
  ds : List PD
  hn : nm ∈ evNames
  hs : ∀ d ∈ ds, SeqAt.shaped d = true
def EvA.D (e : EvA) : PD := .tuple (.str e.nm :: e.ds)
structure AlA where
  L : Lg
  k : Nat
  e : EvA
  hL : LcOk L.tab k L.c
theorem AlR.len {L : Lg} {nm : Str} {ds : List PD} (h : ¬ (partN nm).getD 0 = (ds.length : Int) + 1) : AlR L nm ds false := by
  unfold AlR
  rw [if_pos h]
theorem AlR.ow {L : Lg} {nm : Str} {ds : List PD} (h : L.c.o ≠ []) (h2 : nm ≠ "drop") : AlR L nm ds false := by
  unfold AlR
  split
  · rfl
  · rw [if_pos ⟨h, h2⟩]
theorem AlR.opn {L : Lg} {ds : List PD} (h : (partN "open").getD 0 = (ds.length : Int) + 1) (ho : L.c.o = []) : AlR L "open" ds (openM L (nth ds 0) (nth ds 1) (nth ds 2) (nth ds 3)) := by
  unfold AlR
  rw [if_neg (fun z => z h), if_neg (fun z => z.1 ho), if_pos rfl]
theorem AlR.run {L : Lg} {nm : Str} {ds : List PD} (h : (partN nm).getD 0 = (ds.length : Int) + 1) (ho : L.c.o = []) (hn : nm = "become" ∨ nm = "done" ∨ nm = "fall") : AlR L nm ds (runM L.c.f (nth ds 0)) := by
  unfold AlR
  rw [if_neg (fun z => z h), if_neg (fun z => z.1 ho), if_neg (by rcases hn with rfl | rfl | rfl <;> decide), if_pos hn]
theorem AlR.side {L : Lg} {nm : Str} {ds : List PD} {b : Bool} (h : (partN nm).getD 0 = (ds.length : Int) + 1) (ho : L.c.o = [] ∨ nm = "drop") (h1 : ¬ nm = "open") (h2 : ¬ (nm = "become" ∨ nm = "done" ∨ nm = "fall")) : AlR L nm ds b ↔ (match nth ds 0, nth ds 1 with
  | .int i, .int j => (match gt L.c.m (i, j) with
    | none => b = false
    | some mk => if nm = "drop" ∧ L.c.o.head? = some (i, j) then b = true else if mk ≠ "open" then b = false else
      ∃ t box, gt L.c.t (i, j) = some t ∧ gt L.c.b (i, j) = some box ∧ AtR L nm (nth ds 2) (nth ds 3) (i, j) t box b)
  | _, _ => b = false) := by
  unfold AlR
  rw [if_neg (fun z => z h), if_neg (fun z => ho.elim z.1 z.2), if_neg h1, if_neg h2]
  first | done | exact Iff.rfl
theorem AlR.now {L : Lg} {nm : Str} {ds : List PD} (h : (partN nm).getD 0 = (ds.length : Int) + 1) (ho : L.c.o = [] ∨ nm = "drop") (h1 : ¬ nm = "open") (h2 : ¬ (nm = "become" ∨ nm = "done" ∨ nm = "fall")) (hw : wholeM (nth ds 0) = false ∨ wholeM (nth ds 1) = false) : AlR L nm ds false := by
  rw [AlR.side h ho h1 h2]
  split
  · rename_i i j e1 e2
    rw [e1, e2] at hw
    rcases hw with z | z <;> cases z
  · rfl
theorem ix_t1 {x y : PD} {ds : List PD} : ixW (.d (.tuple (x :: y :: ds))) (.d (.int 1)) = some (.d y) := ix_tn (n := 1) (by simp)
theorem ix_t2 {x y z : PD} {ds : List PD} : ixW (.d (.tuple (x :: y :: z :: ds))) (.d (.int 2)) = some (.d z) := ix_tn (n := 2) (by simp)
theorem len0 {ds : List PD} (h : ds.length = 0) : ds = [] := List.length_eq_zero_iff.mp h
theorem ev_side {nm : Str} {ds : List PD} (hn : nm ∈ evNames) (hlen : (partN nm).getD 0 = (ds.length : Int) + 1) (h1 : ¬ nm = "open") (h2 : ¬ (nm = "become" ∨ nm = "done" ∨ nm = "fall")) : (nm = "drop" ∨ nm = "close" ∨ nm = "told" ∨ nm = "say" ∨ nm = "hear") ∧ ∃ a b lab pay, ds = a :: b :: (if nm = "say" ∨ nm = "hear" then [lab, pay] else []) ∧ nth ds 2 = lab ∧ nth ds 3 = pay := by
  have two : (3 : Int) = (ds.length : Int) + 1 → ∃ a b, ds = [a, b] := fun h => by
    match ds, h with
    | [a, b], _ => exact ⟨a, b, rfl⟩
    | [], h => simp at h
    | [_], h => simp at h
    | _ :: _ :: _ :: _, h => simp at h; omega
  have four : (5 : Int) = (ds.length : Int) + 1 → ∃ a b x y, ds = [a, b, x, y] := fun h => by
    match ds, h with
    | [a, b, x, y], _ => exact ⟨a, b, x, y, rfl⟩
    | [], h => simp at h
    | [_], h => simp at h
    | [_, _], h => simp at h
    | [_, _, _], h => simp at h
    | _ :: _ :: _ :: _ :: _ :: _, h => simp at h; omega
  simp only [evNames, List.mem_cons, List.not_mem_nil, or_false] at hn
  rcases hn with rfl | rfl | rfl | rfl | rfl | rfl | rfl | rfl | rfl | rfl
  · exact absurd rfl h1
  · obtain ⟨a, b, x, y, rfl⟩ := four hlen
    exact ⟨by simp, a, b, x, y, by rw [if_pos (.inl rfl)], rfl, rfl⟩
  · obtain ⟨a, b, x, y, rfl⟩ := four hlen
    exact ⟨by simp, a, b, x, y, by rw [if_pos (.inr rfl)], rfl, rfl⟩
  · obtain ⟨a, b, rfl⟩ := two hlen
    exact ⟨by simp, a, b, _, _, by rw [if_neg (by decide)], rfl, rfl⟩
  · obtain ⟨a, b, rfl⟩ := two hlen
    exact ⟨by simp, a, b, _, _, by rw [if_neg (by decide)], rfl, rfl⟩
  · obtain ⟨a, b, rfl⟩ := two hlen
    exact ⟨by simp, a, b, _, _, by rw [if_neg (by decide)], rfl, rfl⟩
  · exact absurd (.inl rfl) h2
  · exact absurd (.inr (.inl rfl)) h2
  · exact absurd (.inr (.inr rfl)) h2
  · have h3 : (0 : Int) = (ds.length : Int) + 1 := hlen
    omega
theorem non_shaped : SeqAt.shaped .none = true := shaped_of (by simp [PyData.canLay0]) (by simp [PyData.depth])
theorem ev_run {nm : Str} {ds : List PD} (h2 : nm = "become" ∨ nm = "done" ∨ nm = "fall") (hlen : (partN nm).getD 0 = (ds.length : Int) + 1) : ∃ a rest, ds = a :: rest := by
  cases ds with
  | cons a rest => exact ⟨a, rest, rfl⟩
  | nil =>
    rcases h2 with rfl | rfl | rfl
    · have h3 : (3 : Int) = 0 + 1 := hlen
      omega
    · have h3 : (2 : Int) = 0 + 1 := hlen
      omega
    · have h3 : (2 : Int) = 0 + 1 := hlen
      omega
section
variable {P : Program} {w : World} {K : PySem.W.Frag} {mg : Str → Option Value} {base : Heap} {C : Addr} (E : Fs w K mg C)
include E
theorem ok_allows : MeG P w K mg base C "allows" 11 (SpD C (fun z : AlA => [.lg z.L.D, .d z.e.D]) (fun z r => ∃ b, AlR z.L z.e.nm z.e.ds b ∧ r = .d (.bool b))) := by
  obtain ⟨f, fd, F, hm⟩ := E.m_allows
  refine (st_Ledger_allows F (fun _ => rfl) fun c I z => ?_).m hm
  have ok := I.ok
  have hN := I.N
  have hG := I.G
  have hL := I.Lo
  have bi := I.bi E.bi
  have ld := I.ld E.ld
  have pk : PkOk c.K c.w c.mg := by rw [I.K, I.w, I.mg]; exact E.pk
  have f1 := I.fn (sp := fun C => SpD C _ _) (ok_is_whole E) (by omega)
  have f2 := I.me (sp := fun C => SpD C _ _) (ok_is_running E) (by omega)
  have f3 := I.me (sp := fun C => SpD C _ _) (ok_allows_open E) (by omega)
  have f4 := I.me (sp := fun C => SpD C _ _) (ok_allows_at E) (by omega)
  obtain ⟨L, k, ⟨nm, ds, hn, hs⟩, hLk⟩ := z
  have hle : ((PyData.str nm :: ds).length : Int) = (ds.length : Int) + 1 := by rw [List.length_cons]; omega
  show DSs c [some (.r (.lg L.D)), some (.r (.d (.tuple (.str nm :: ds)))), none, none] (_ :: _) _
  wtm_at "w"
  refine ⟨_, ix_t0, ?_⟩
  wtm_at "w"
  refine ⟨_, ix_t0, ?_⟩
  wtm_at "w"
  refine ⟨nm, rfl, hn, ?_⟩
  by_cases hlen : (partN nm).getD 0 = (ds.length : Int) + 1
  · have b1 : (!(PyData.int ((partN nm).getD 0)).eqv (PyData.int ((PyData.str nm :: ds).length : Int))) = false := by rw [eqv_int, hle, decide_eq_true hlen]; rfl
    cases hoe : L.c.o.isEmpty with
    | true =>
      have ho : L.c.o = [] := List.isEmpty_iff.mp hoe
      have b2 : (!L.D.c.o.isEmpty) = false := by show (!(L.c.o.map pd).isEmpty) = false; rw [ho]; rfl
      by_cases h1 : nm = "open"
      · subst h1
        wtm_at "w"
        match ds, hlen with
        | [x1, x2, x3, x4], hlen =>
          refine ⟨(L, .str "open", x1, x2, x3, x4), rfl, fun w hw => ?_⟩
          subst hw
          exact ⟨_, AlR.opn hlen ho, rfl⟩
      · have b3 : (PyData.str nm).eqv (PyData.str "open") = false := by rw [eqv_str]; exact decide_eq_false h1
        by_cases h2 : nm = "become" ∨ nm = "done" ∨ nm = "fall"
        · have b4 : (decide (("become" : Str) = nm) || (decide (("done" : Str) = nm) || (decide (("fall" : Str) = nm) || false))) = true := by
            rcases h2 with rfl | rfl | rfl <;> rfl
          wtm_at "w"
          obtain ⟨a, rest, rfl⟩ := ev_run h2 hlen
          refine ⟨_, ix_t1, ?_⟩
          wtm_at "w"
          refine ⟨(L, a), rfl, fun w hw => ?_⟩
          subst hw
          exact ⟨_, AlR.run hlen ho h2, rfl⟩
        · obtain ⟨hnm, a, b, lab, pay, rfl, n2, n3⟩ := ev_side hn hlen h1 h2
          have hlp : SeqAt.shaped pay = true := by
            by_cases hsh : nm = "say" ∨ nm = "hear"
            · rw [if_pos hsh] at hs
              exact hs pay (by simp)
            · rw [if_neg hsh] at n3
              rw [← n3]
              exact non_shaped
          have b4 : (decide (("become" : Str) = nm) || (decide (("done" : Str) = nm) || (decide (("fall" : Str) = nm) || false))) = false := by
            rcases hnm with rfl | rfl | rfl | rfl | rfl <;> rfl
          wtm_at "w"
          refine ⟨_, ix_t1, ?_⟩
          wtm_at "w"
          refine ⟨a, rfl, fun w hw => ?_⟩
          cases hwa : wholeM a with
          | false =>
            obtain rfl : w = .d (.bool false) := hw.trans (congrArg (fun b => W.d (.bool b)) hwa)
            wtm_at "w"
            exact ⟨false, AlR.now hlen (.inl ho) h1 h2 (.inl hwa), rfl⟩
          | true =>
            obtain rfl : w = .d (.bool true) := hw.trans (congrArg (fun b => W.d (.bool b)) hwa)
            obtain ⟨i, rfl⟩ := wholeM_int E hwa
            wtm_at "w"
            refine ⟨_, ix_t2, ?_⟩
            wtm_at "w"
            refine ⟨b, rfl, fun w hw => ?_⟩
            cases hwb : wholeM b with
            | false =>
              obtain rfl : w = .d (.bool false) := hw.trans (congrArg (fun b => W.d (.bool b)) hwb)
              wtm_at "w"
              exact ⟨false, AlR.now hlen (.inl ho) h1 h2 (.inr hwb), rfl⟩
            | true =>
              obtain rfl : w = .d (.bool true) := hw.trans (congrArg (fun b => W.d (.bool b)) hwb)
              obtain ⟨j, rfl⟩ := wholeM_int E hwb
              wtm_at "w"
              refine ⟨_, ix_t1, ?_⟩
              wtm_at "w"
              refine ⟨_, ix_t2, ?_⟩
              cases hmk : gt L.c.m (i, j) with
              | none =>
                have b5 : (!(lkp L.D.c.m (i, j)).isSome) = true := by rw [show L.D.c.m = L.c.D.m from rfl, Lc.gt_m, hmk]; rfl
                wtm_at "w"
                refine ⟨false, (AlR.side hlen (.inl ho) h1 h2).mpr ?_, rfl⟩
                show (match gt L.c.m (i, j) with | none => false = false | some mk => _)
                rw [hmk]
              | some mk =>
                have b5 : (!(lkp L.D.c.m (i, j)).isSome) = false := by rw [show L.D.c.m = L.c.D.m from rfl, Lc.gt_m, hmk]; rfl
                obtain ⟨t, ht, htu⟩ := hLk.t (i, j) (by rw [hmk]; simp)
                have hb := hLk.box (p := (i, j)) (by rw [hmk]; simp)
                have hpart : ∃ mk', gt L.c.m (i, 1 - j) = some mk' := Option.ne_none_iff_exists'.mp (hLk.pa (i, j) (by rw [hmk]; simp))
                have hms : ∀ m ∈ boxOf L.c (i, j), SeqAt.shaped m.2 = true := fun m hm => payB_shaped ((hLk.bx _ _ hb).2 m hm).1
                wtm_at "w"
                refine ⟨_, ix_t1, ?_⟩
                wtm_at "w"
                refine ⟨_, ix_t2, ?_⟩
                rcases Bool.eq_false_or_eq_true (PyData.eqv (.str nm) (.str "drop")) with b6 | b6 <;> (
                  wtm_at "w"
                  refine ⟨_, ix_dt (d := .str mk) (by rw [show L.D.c.m = L.c.D.m from rfl, Lc.gt_m, hmk]; rfl), ?_⟩
                  by_cases hop : mk = "open"
                  · have b7 : (!(PyData.str mk).eqv (PyData.str "open")) = false := by rw [eqv_str, decide_eq_true hop]; rfl
                    wtm_at "w"
                    refine ⟨⟨L, nm, lab, pay, i, j, t, boxOf L.c (i, j), hLk.ok, hnm, ht, htu, hb, hpart, hlp, hms, hLk.t⟩, rfl, fun w hw => ?_⟩
                    obtain ⟨bb, hbb, rfl⟩ := hw
                    refine ⟨bb, (AlR.side hlen (.inl ho) h1 h2).mpr ?_, rfl⟩
                    show (match gt L.c.m (i, j) with | none => bb = false | some mk => _)
                    rw [hmk]
                    dsimp only
                    rw [if_neg (fun z => by rw [ho] at z; cases z.2), if_neg (fun z => z hop), n2, n3]
                    exact ⟨t, _, ht, hb, hbb⟩
                  · have b7 : (!(PyData.str mk).eqv (PyData.str "open")) = true := by rw [eqv_str, decide_eq_false hop]; rfl
                    wtm_at "w"
                    refine ⟨false, (AlR.side hlen (.inl ho) h1 h2).mpr ?_, rfl⟩
                    show (match gt L.c.m (i, j) with | none => false = false | some mk => _)
                    rw [hmk]
                    dsimp only
                    rw [if_neg (fun z => by rw [ho] at z; cases z.2), if_pos hop])
    | false =>
      have b2 : (!L.D.c.o.isEmpty) = true := by show (!(L.c.o.map pd).isEmpty) = true; cases h : L.c.o <;> first | rfl | (rw [h] at hoe; cases hoe)
      by_cases hd : nm = "drop"
      · subst hd
        match ds, hlen with
        | [a, b], hlen =>
          have h1 : ¬ ("drop" : Str) = "open" := by decide
          have h2 : ¬ (("drop" : Str) = "become" ∨ ("drop" : Str) = "done" ∨ ("drop" : Str) = "fall") := by decide
          wtm_at "w"
          refine ⟨a, rfl, fun w hw => ?_⟩
          cases hwa : wholeM a with
          | false =>
            obtain rfl : w = .d (.bool false) := hw.trans (congrArg (fun b => W.d (.bool b)) hwa)
            wtm_at "w"
            exact ⟨false, AlR.now hlen (.inr rfl) h1 h2 (.inl hwa), rfl⟩
          | true =>
            obtain rfl : w = .d (.bool true) := hw.trans (congrArg (fun b => W.d (.bool b)) hwa)
            obtain ⟨i, rfl⟩ := wholeM_int E hwa
            wtm_at "w"
            refine ⟨b, rfl, fun w hw => ?_⟩
            cases hwb : wholeM b with
            | false =>
              obtain rfl : w = .d (.bool false) := hw.trans (congrArg (fun b => W.d (.bool b)) hwb)
              wtm_at "w"
              exact ⟨false, AlR.now hlen (.inr rfl) h1 h2 (.inr hwb), rfl⟩
            | true =>
              obtain rfl : w = .d (.bool true) := hw.trans (congrArg (fun b => W.d (.bool b)) hwb)
              obtain ⟨j, rfl⟩ := wholeM_int E hwb
              cases hmk : gt L.c.m (i, j) with
              | none =>
                have b5 : (!(lkp L.D.c.m (i, j)).isSome) = true := by rw [show L.D.c.m = L.c.D.m from rfl, Lc.gt_m, hmk]; rfl
                wtm_at "w"
                refine ⟨false, (AlR.side hlen (.inr rfl) h1 h2).mpr ?_, rfl⟩
                show (match gt L.c.m (i, j) with | none => false = false | some mk => _)
                rw [hmk]
              | some mk =>
                have b5 : (!(lkp L.D.c.m (i, j)).isSome) = false := by rw [show L.D.c.m = L.c.D.m from rfl, Lc.gt_m, hmk]; rfl
                obtain ⟨p, os, hoc⟩ : ∃ p os, L.c.o = p :: os := by
                  cases h : L.c.o with
                  | nil => rw [h] at hoe; cases hoe
                  | cons p os => exact ⟨p, os, rfl⟩
                wtm_at "w"
                refine ⟨.d (pd p), by show ixW (.d (.list (L.c.o.map pd))) _ = _; rw [hoc]; exact ix_l0, ?_⟩
                have o1 : eqOk (pd p) (.tuple [.int i, .int j]) = true := rfl
                have hpe : PyData.eqv (pd p) (.tuple [.int i, .int j]) = decide (p = (i, j)) := by
                  obtain ⟨x, y⟩ := p
                  show (x == i && (y == j && true)) = _
                  by_cases h1 : x = i <;> by_cases h2 : y = j <;> simp [h1, h2]
                wtm_at "w"
                · rename_i h
                  rw [hpe] at h
                  have h := of_decide_eq_true h
                  refine ⟨true, (AlR.side hlen (.inr rfl) h1 h2).mpr ?_, rfl⟩
                  show (match gt L.c.m (i, j) with | none => true = false | some mk => _)
                  rw [hmk]
                  dsimp only
                  rw [if_pos ⟨rfl, by rw [hoc, h]; rfl⟩]
                · rename_i h
                  rw [hpe] at h
                  have h := of_decide_eq_false h
                  obtain ⟨t, ht, htu⟩ := hLk.t (i, j) (by rw [hmk]; simp)
                  have hb := hLk.box (p := (i, j)) (by rw [hmk]; simp)
                  have hpart : ∃ mk', gt L.c.m (i, 1 - j) = some mk' := Option.ne_none_iff_exists'.mp (hLk.pa (i, j) (by rw [hmk]; simp))
                  have hms : ∀ m ∈ boxOf L.c (i, j), SeqAt.shaped m.2 = true := fun m hm => payB_shaped ((hLk.bx _ _ hb).2 m hm).1
                  refine ⟨_, ix_dt (d := .str mk) (by rw [show L.D.c.m = L.c.D.m from rfl, Lc.gt_m, hmk]; rfl), ?_⟩
                  have hnd : ¬ (("drop" : Str) = "drop" ∧ L.c.o.head? = some (i, j)) := fun z => h (by rw [hoc] at z; exact Option.some.inj z.2)
                  by_cases hop : mk = "open"
                  · have b7 : (!(PyData.str mk).eqv (PyData.str "open")) = false := by rw [eqv_str, decide_eq_true hop]; rfl
                    wtm_at "w"
                    refine ⟨⟨L, "drop", .none, .none, i, j, t, boxOf L.c (i, j), hLk.ok, .inl rfl, ht, htu, hb, hpart, non_shaped, hms, hLk.t⟩, rfl, fun w hw => ?_⟩
                    obtain ⟨bb, hbb, rfl⟩ := hw
                    refine ⟨bb, (AlR.side hlen (.inr rfl) h1 h2).mpr ?_, rfl⟩
                    show (match gt L.c.m (i, j) with | none => bb = false | some mk => _)
                    rw [hmk]
                    dsimp only
                    rw [if_neg hnd, if_neg (fun z => z hop)]
                    exact ⟨t, _, ht, hb, hbb⟩
                  · have b7 : (!(PyData.str mk).eqv (PyData.str "open")) = true := by rw [eqv_str, decide_eq_false hop]; rfl
                    wtm_at "w"
                    refine ⟨false, (AlR.side hlen (.inr rfl) h1 h2).mpr ?_, rfl⟩
                    show (match gt L.c.m (i, j) with | none => false = false | some mk => _)
                    rw [hmk]
                    dsimp only
                    rw [if_neg hnd, if_pos hop]
      · have b3 : (!(PyData.str nm).eqv (PyData.str "drop")) = true := by rw [eqv_str, decide_eq_false hd]; rfl
        wtm_at "w"
        exact ⟨false, AlR.ow (fun z => by rw [z] at hoe; cases hoe) hd, rfl⟩
  · have b1 : (!(PyData.int ((partN nm).getD 0)).eqv (PyData.int ((PyData.str nm :: ds).length : Int))) = true := by rw [eqv_int, hle, decide_eq_false hlen]; rfl
    wtm_at "w"
    exact ⟨false, AlR.len hlen, rfl⟩
end
/-! ## What is allowed is an event -/
theorem eqv_exact {d p : PD} (h : payB d = true) (h1 : isBoolD d = isBoolD p) (h2 : (endP d).isSome = (endP p).isSome) (h3 : PyData.eqv d p = true) : d = p := by
  cases d with
  | none => cases p <;> first | rfl | (simp [PyData.eqv] at h3)
  | int i =>
    cases p with
    | int j => rw [eqv_int] at h3; rw [of_decide_eq_true h3]
    | bool b => cases h1
    | _ => simp [PyData.eqv] at h3
  | bool b =>
    cases p with
    | bool c => simp [PyData.eqv] at h3; rw [h3]
    | _ => cases h1
  | tuple ds =>
    obtain ⟨g, hg⟩ := Option.isSome_iff_exists.mp (show (endP (.tuple ds)).isSome = true from h)
    obtain ⟨g', hg'⟩ := Option.isSome_iff_exists.mp (h2.symm.trans h)
    have e := endP_shape hg
    have e' := endP_shape hg'
    rw [e] at h3 ⊢
    subst e'
    obtain ⟨a, b⟩ := g
    obtain ⟨a', b'⟩ := g'
    have h3' : (PyData.eqv (.str "end") (.str "end") && (a == a' && (b == b' && true))) = true := h3
    simp only [Bool.and_true, Bool.and_eq_true, beq_iff_eq] at h3'
    rw [h3'.2.1, h3'.2.2]
  | _ => cases h
theorem PayR.pay {L : Lg} {k : Kind} {p : PD} {pl : Pl} (h : PayR L k p pl true) : payB p = true ∧ ∀ g, endP p = some g → gt L.c.m g = some "open" ∧ g ≠ pl := by
  cases k with
  | non => cases p <;> first | exact ⟨rfl, fun g hg => by cases hg⟩ | cases h
  | int => cases p <;> first | exact ⟨rfl, fun g hg => by cases hg⟩ | cases h
  | bool => cases p <;> first | exact ⟨rfl, fun g hg => by cases hg⟩ | cases h
  | ref x n =>
    simp only [PayR] at h
    cases e : endP p with
    | none => rw [e] at h; cases h
    | some g =>
      rw [e] at h
      dsimp only at h
      split at h
      · rename_i hc
        refine ⟨?_, fun g' hg' => by cases hg'; exact hc⟩
        rw [endP_shape e]
        rfl
      · cases h
theorem runM_act {f : List Bool} {d : PD} (h : runM f d = true) : ∃ a, d = .int a ∧ actP f a := by
  cases d with
  | int i =>
    simp only [runM, Bool.and_eq_true, decide_eq_true_eq] at h
    exact ⟨i, rfl, h.1.1, h.1.2⟩
  | _ => cases h
theorem kindB_ref {tab : Tab} {d : PD} (h : kindB tab d = true) : ∃ x nm, d = .tuple [.str (rtag x), .str nm] ∧ (tab.get nm).isSome = true := by
  cases d with
  | tuple ds =>
    rcases ds with _ | ⟨a, _ | ⟨b, _ | ⟨c, ds⟩⟩⟩
    · cases h
    · cases h
    · cases a with
      | str t =>
        cases b with
        | str n =>
          replace h : ((decide ("name" = t) || decide ("dual" = t)) && (tab.get n).isSome) = true := h
          simp only [Bool.and_eq_true, Bool.or_eq_true, decide_eq_true_eq] at h
          rcases h.1 with e | e
          · exact ⟨false, n, by rw [← e]; rfl, h.2⟩
          · exact ⟨true, n, by rw [← e]; rfl, h.2⟩
        | _ => cases h
      | _ => cases h
    · cases h
  | _ => cases h
theorem AtR.sayP {L : Lg} {lab pay : PD} {pl : Pl} {t : Talk} {box : List Msg} (h : AtR L "say" lab pay pl t box true) (hn : (headM L.tab t).isRef = false) : ∃ x rs k u, lab = .str x ∧ headM L.tab t = .act true rs ∧ rs.find x = some (k, u) ∧ PayR L k pay pl true := by
  rw [AtR.msg (.inl rfl)] at h
  cases lab with
  | str x =>
    dsimp only at h
    split at h
    · rename_i ht
      cases e : (headM L.tab t).rows.find x with
      | none => rw [e] at h; cases h
      | some q =>
        rw [e] at h
        dsimp only at h
        rw [if_pos rfl] at h
        cases hd : headM L.tab t with
        | ref b n => rw [hd] at hn; cases hn
        | fin => rw [hd] at e; cases e
        | act s rs =>
          rw [hd] at ht e
          cases s with
          | true => exact ⟨x, rs, q.1, q.2, rfl, rfl, e, h⟩
          | false => exact absurd (show ("hear" : Str) = "say" from ht) (by decide)
    · cases h
  | _ => cases h
theorem AtR.hearP {L : Lg} {lab pay : PD} {pl : Pl} {t : Talk} {box : List Msg} (h : AtR L "hear" lab pay pl t box true) (hn : (headM L.tab t).isRef = false) : ∃ x rs k u, lab = .str x ∧ headM L.tab t = .act false rs ∧ rs.find x = some (k, u) ∧ oldM box (.str x) pay = true := by
  rw [AtR.msg (.inr rfl)] at h
  cases lab with
  | str x =>
    dsimp only at h
    split at h
    · rename_i ht
      cases e : (headM L.tab t).rows.find x with
      | none => rw [e] at h; cases h
      | some q =>
        rw [e] at h
        dsimp only at h
        rw [if_neg (by decide)] at h
        cases hd : headM L.tab t with
        | ref b n => rw [hd] at hn; cases hn
        | fin => rw [hd] at e; cases e
        | act s rs =>
          rw [hd] at ht e
          cases s with
          | false => exact ⟨x, rs, q.1, q.2, rfl, rfl, e, h.symm⟩
          | true => exact absurd (show ("say" : Str) = "hear" from ht) (by decide)
    · cases h
  | _ => cases h
theorem oldM_box {box : List Msg} {x : Str} {p : PD} (h : oldM box (.str x) p = true) (hb : ∀ m ∈ box, payB m.2 = true) : ∃ r, box = (x, p) :: r := by
  cases box with
  | nil => cases h
  | cons m r =>
    obtain ⟨ml, mp⟩ := m
    simp only [oldM, Bool.and_eq_true, beq_iff_eq] at h
    obtain ⟨⟨⟨h1, h2⟩, h3⟩, h4⟩ := h
    rw [eqv_str] at h3
    have e1 := of_decide_eq_true h3
    have e2 := eqv_exact (hb _ List.mem_cons_self) h1 h2 h4
    subst e1
    exact ⟨r, by rw [show mp = p from e2]⟩
/-- what allows says True of -/
theorem AlR.al {L : Lg} {k : Nat} (G : GInv L.tab k L) (e : EvA) (h : AlR L e.nm e.ds true) : ∃ ev : Ev, e.D = ev.D ∧ Al L.tab L.c ev ∧ (∀ a c n x nm, ev = .opn a c n x nm → n = L.n) ∧ ev.good := by
  obtain ⟨nm, ds, hn, hs⟩ := e
  simp only at h hn hs
  have h0 := h
  unfold AlR at h
  split at h
  · cases h
  rename_i hlen
  have hlen := Classical.not_not.mp hlen
  split at h
  · cases h
  rename_i hoo
  split at h
  · rename_i h1
    subst h1
    match ds, hlen with
    | [a, b, c, d], _ =>
      have h : (runM L.c.f a && intM L.c.f.length b && intM L.n c && kindB L.tab d) = true := h.symm
      simp only [Bool.and_eq_true] at h
      obtain ⟨⟨⟨h1, h2⟩, h3⟩, h4⟩ := h
      obtain ⟨a, rfl, _⟩ := runM_act h1
      obtain ⟨x, m, rfl, hm⟩ := kindB_ref h4
      have e2 : ∃ i, b = .int i := by cases b <;> first | exact ⟨_, rfl⟩ | cases h2
      have e3 : c = .int L.n := by
        cases c with
        | int i => rw [of_decide_eq_true (show decide (i = (L.n : Int)) = true from h3)]
        | _ => cases h3
      obtain ⟨i, rfl⟩ := e2
      subst e3
      have nk : ∀ j : Int, gt L.c.m ((L.n : Int), j) = none := fun j => Classical.byContradiction fun z => by
        have := (G.key _ z).2.1
        simp at this
      exact ⟨.opn a i L.n x m, rfl, ⟨hm, nk 0, nk 1⟩, fun _ _ _ _ _ e => by cases e; rfl, trivial⟩
  rename_i h1
  split at h
  · rename_i h2
    rcases h2 with rfl | rfl | rfl
    · match ds, hlen with
      | [a, b], _ =>
        obtain ⟨a, rfl, ha⟩ := runM_act (show runM L.c.f a = true from h.symm)
        exact ⟨.become a b, rfl, ha, fun _ _ _ _ _ e => (by cases e), trivial⟩
      | [], h => exact absurd h (by decide)
      | [_], h =>
        exfalso
        have h3 : (3 : Int) = ((1 : Nat) : Int) + 1 := h
        omega
      | _ :: _ :: _ :: r, h =>
        exfalso
        have h3 : (3 : Int) = ((r.length + 1 + 1 + 1 : Nat) : Int) + 1 := h
        omega
    · match ds, hlen with
      | [a], _ =>
        obtain ⟨a, rfl, ha⟩ := runM_act (show runM L.c.f a = true from h.symm)
        exact ⟨.done a, rfl, ha, fun _ _ _ _ _ e => (by cases e), trivial⟩
      | [], h => exact absurd h (by decide)
      | _ :: _ :: r, h =>
        exfalso
        have h3 : (2 : Int) = ((r.length + 1 + 1 : Nat) : Int) + 1 := h
        omega
    · match ds, hlen with
      | [a], _ =>
        obtain ⟨a, rfl, ha⟩ := runM_act (show runM L.c.f a = true from h.symm)
        exact ⟨.fall a, rfl, ha, fun _ _ _ _ _ e => (by cases e), trivial⟩
      | [], h => exact absurd h (by decide)
      | _ :: _ :: r, h =>
        exfalso
        have h3 : (2 : Int) = ((r.length + 1 + 1 : Nat) : Int) + 1 := h
        omega
  rename_i h2
  obtain ⟨hnm, a, b, lab, pay, rfl, n2, n3⟩ := ev_side hn hlen h1 h2
  have ho : L.c.o = [] ∨ nm = "drop" := by
    rcases Classical.em (L.c.o = []) with z | z
    · exact .inl z
    · exact .inr (Classical.not_not.mp fun y => hoo ⟨z, y⟩)
  cases hwa : wholeM a with
  | false => exact absurd (h0.det (AlR.now hlen ho h1 h2 (.inl hwa))) (by decide)
  | true =>
  cases hwb : wholeM b with
  | false => exact absurd (h0.det (AlR.now hlen ho h1 h2 (.inr hwb))) (by decide)
  | true =>
    obtain ⟨i, rfl⟩ : ∃ i, a = .int i := by cases a <;> first | exact ⟨_, rfl⟩ | cases hwa
    obtain ⟨j, rfl⟩ : ∃ i, b = .int i := by cases b <;> first | exact ⟨_, rfl⟩ | cases hwb
    replace h := (AlR.side hlen ho h1 h2).mp h0
    rw [n2, n3] at h
    replace h : (match gt L.c.m (i, j) with
      | none => true = false
      | some mk => if nm = "drop" ∧ L.c.o.head? = some (i, j) then true = true else if mk ≠ "open" then true = false else
        ∃ t box, gt L.c.t (i, j) = some t ∧ gt L.c.b (i, j) = some box ∧ AtR L nm lab pay (i, j) t box true) := h
    cases hmk : gt L.c.m (i, j) with
    | none => rw [hmk] at h; cases h
    | some mk =>
      rw [hmk] at h
      dsimp only at h
      by_cases hd : nm = "drop" ∧ L.c.o.head? = some (i, j)
      · obtain ⟨rfl, hd⟩ := hd
        exact ⟨.drop i j, rfl, .inr ⟨some_ne hmk, hd⟩, fun _ _ _ _ _ e => (by cases e), trivial⟩
      · rw [if_neg hd] at h
        split at h
        · cases h
        · rename_i hop
          have hop : mk = "open" := Classical.not_not.mp hop
          subst hop
          obtain ⟨t, box, ht, hb, ha⟩ := h
          obtain ⟨t', ht', hTU⟩ := G.lc.t (i, j) (some_ne hmk)
          rw [ht] at ht'; cases ht'
          have hnr := hTU.toTA.non
          have hbox : ∀ m ∈ box, payB m.2 = true := fun m hm => ((G.lc.bx _ _ hb).2 m hm).1
          rcases hnm with rfl | rfl | rfl | rfl | rfl
          · exact ⟨.drop i j, rfl, .inl hmk, fun _ _ _ _ _ e => (by cases e), trivial⟩
          · exact ⟨.close i j, rfl, hmk, fun _ _ _ _ _ e => (by cases e), trivial⟩
          · refine ⟨.told i j, rfl, ?_, fun _ _ _ _ _ e => (by cases e), trivial⟩
            unfold AtR at ha
            rw [if_neg (by decide), if_neg (by decide), if_pos rfl] at ha
            have ha := ha.symm
            simp only [Bool.and_eq_true, decide_eq_true_eq] at ha
            exact ⟨hmk, by rw [hb, List.isEmpty_iff.mp ha.1.2], ha.2⟩
          · obtain ⟨x, rs, kd, u, rfl, e1, e2, e3⟩ := ha.sayP hnr
            obtain ⟨p1, p2⟩ := e3.pay
            have g1 : SeqAt.shaped (.str x) = true := hs _ (by simp)
            have g2 : gs x = true := by
              unfold SeqAt.shaped at g1
              rw [Bool.and_eq_true] at g1
              exact g1.1
            exact ⟨.say i j x pay, rfl, ⟨hmk, ⟨t, rs, kd, u, ht, e1, e2⟩, p1, p2⟩, fun _ _ _ _ _ e => (by cases e), g2, (payB_lay p1).1, by have := (payB_lay p1).2.1; omega⟩
          · obtain ⟨x, rs, kd, u, rfl, e1, e2, e3⟩ := ha.hearP hnr
            obtain ⟨r, rfl⟩ := oldM_box e3 hbox
            have p1 : payB pay = true := hbox _ List.mem_cons_self
            have g1 : SeqAt.shaped (.str x) = true := hs _ (by simp)
            have g2 : gs x = true := by
              unfold SeqAt.shaped at g1
              rw [Bool.and_eq_true] at g1
              exact g1.1
            exact ⟨.hear i j x pay, rfl, ⟨hmk, ⟨t, rs, kd, u, ht, e1, e2⟩, ⟨r, hb⟩⟩, fun _ _ _ _ _ e => (by cases e), g2, (payB_lay p1).1, by have := (payB_lay p1).2.1; omega⟩
/-! ### the Ledger's changes: _hear -/
def Lc.hearB (l : Lc) (p : Pl) (d : PD) : Lc := { l with m := markM l.m d "open", b := pt l.b p (boxOf l p).tail }
structure HrA where
  tab : Tab
  n : Int
  l : Lc
  p : Pl
  x : Str
  d : PD
  r : List Msg
  hb : gt l.b p = some ((x, d) :: r)
  hm : ∀ m ∈ (x, d) :: r, payB m.2 = true
  s1 : l.m.length < 1000000
  s2 : l.b.length < 1000000
  s3 : l.t.length < 1000000
theorem boxD_imm : ∀ {ms : List Msg}, (∀ m ∈ ms, payB m.2 = true) → immAll (ms.map Msg.D) = true
  | [], _ => by simp [immAll]
  | m :: ms, h => by
    have h1 := (payB_lay (h m List.mem_cons_self)).2.2
    have h2 := boxD_imm (ms := ms) fun q hq => h q (List.mem_cons_of_mem _ hq)
    simp [immAll, Msg.D, K49.imm, h1, h2]
section
variable {P : Program} {w : World} {K : PySem.W.Frag} {mg : Str → Option Value} {base : Heap} {C : Addr} (E : Fs w K mg C)
include E
theorem ok_hear : MeG P w K mg base C "_hear" 3 (SpM C (fun _ : HrA => []) (fun z => [.d (pd z.p)]) (fun z => (.lg z.tab.D z.n, z.l.D)) (fun z k' co' => k' = .lg z.tab.D z.n ∧ co' = (z.l.hearB z.p z.d).D)) := by
  obtain ⟨f, fd, F, hm⟩ := E.m__hear
  refine (st_Ledger__hear F (fun _ => ⟨rfl, rfl⟩) fun c I z A => ?_).m hm
  have ok := I.ok
  have hN := I.N
  have hG := I.G
  have hL := I.Lo
  have bi := I.bi E.bi
  have ld := I.ld E.ld
  have f1 := I.fn (sp := fun C => SpD C _ _) (ok_is_end E) (by omega)
  obtain ⟨tab, n, l, ⟨i, j⟩, x, d, r, hb, hms, s1, s2, s3⟩ := z
  show DSs c [some (.olg A ⟨tab.D, n, l.D⟩), some (.r (.d (.tuple [.int i, .int j]))), none] (_ :: _) _
  have hbx : lkp l.D.b (i, j) = some (boxD ((x, d) :: r)) := by rw [Lc.gt_b, hb]; rfl
  wtm_at "m"
  refine ⟨_, ix_dt hbx, ?_⟩
  wtm_at "m"
  refine ⟨_, ix_l0, ?_⟩
  have hd : immW (.d ((x, d) : Msg).2) = true := (payB_lay (hms _ List.mem_cons_self)).2.2
  wtm_at "m"
  refine ⟨_, ix_dt hbx, ?_⟩
  wtm_at "m"
  have e1 : cutD (List.map Msg.D ((x, d) :: r)) (some 1) none = r.map Msg.D := cut_tail
  rw [e1]
  have hi : immAll (r.map Msg.D) = true := boxD_imm fun m hm => hms m (List.mem_cons_of_mem _ hm)
  have s2' : l.D.b.length < 1000000 := by show (l.b.map _).length < _; rw [List.length_map]; exact s2
  have hbq : boxOf l (i, j) = (x, d) :: r := boxOf_eq hb
  have eb : pt l.D.b (i, j) (.list (r.map Msg.D)) = (l.hearB (i, j) d).D.b := by
    show pt (l.b.map fun p => (p.1, boxD p.2)) (i, j) (boxD r) = (pt l.b (i, j) (boxOf l (i, j)).tail).map fun p => (p.1, boxD p.2)
    rw [hbq, pt_mapv]
    rfl
  wtm_at "m"
  refine ⟨d, rfl, fun w hw => ?_⟩
  cases hE : endP d with
  | none =>
    obtain rfl : w = .d (.bool false) := hw.trans (by rw [hE]; rfl)
    wtm_at "m"
    have em : l.m = (l.hearB (i, j) d).m := by simp only [Lc.hearB, markM, hE]
    refine endM_lg rfl ⟨rfl, Co.eq rfl ?_ eb rfl rfl⟩
    show _ = (l.hearB (i, j) d).m.map fun p => (p.1, PyData.str p.2)
    rw [← em]
    rfl
  | some g =>
    obtain rfl : w = .d (.bool true) := hw.trans (by rw [hE]; rfl)
    obtain rfl := endP_shape hE
    obtain ⟨a, b⟩ := g
    wtm_at "m"
    refine ⟨⟨by show (l.t.map _).length < _; rw [List.length_map]; exact s3, by show (l.m.map _).length < _; rw [List.length_map]; exact s1⟩, ?_⟩
    wtm_at "m"
    refine endM_lg rfl ⟨rfl, Co.eq rfl ?_ eb rfl rfl⟩
    show pt (l.m.map fun p => (p.1, PyData.str p.2)) (a, b) (.str "open") = (l.hearB (i, j) _).m.map fun p => (p.1, PyData.str p.2)
    rw [pt_mapv]
    simp only [Lc.hearB, markM, hE]
end
/-! ### the Ledger's changes: _say -/
def Lc.sayB (l : Lc) (q : Pl) (x : Str) (d : PD) : Lc where
  t := l.t
  m := markM l.m d "away"
  b := if takes l q then pt l.b q (boxOf l q ++ [(x, d)]) else l.b
  f := l.f
  o := if takes l q then l.o else l.o ++ (endP d).toList
structure Sz (l : Lc) : Prop where
  t : l.D.t.length < 1000000
  m : l.D.m.length < 1000000
  b : l.D.b.length < 1000000
  f : l.D.f.length < 1000000
  o : l.D.o.length < 1000000
structure SyA where
  tab : Tab
  n : Int
  l : Lc
  q : Pl
  x : Str
  d : PD
  hm : gt l.m q ≠ none
  hb : gt l.b q = some (boxOf l q)
  hp : payB d = true
  hl : (boxOf l q).length < 1000
  sz : Sz l
theorem Lc.D_t (l : Lc) : l.D.t = l.t.map fun p => (p.1, p.2.D) := rfl
theorem Lc.D_m (l : Lc) : l.D.m = l.m.map fun p => (p.1, PyData.str p.2) := rfl
theorem Lc.D_b (l : Lc) : l.D.b = l.b.map fun p => (p.1, boxD p.2) := rfl
theorem in_mark {mk : Str} : inW (.d (.str mk)) (.d (.tuple [.str "open", .str "away"])) = some (decide (mk = "open") || decide (mk = "away")) := by
  show some (decide (("open" : Str) = mk) || (decide (("away" : Str) = mk) || false)) = _
  rw [Bool.or_false, decide_eq_decide.mpr (eq_comm (a := ("open" : Str))), decide_eq_decide.mpr (eq_comm (a := ("away" : Str)))]
section
variable {P : Program} {w : World} {K : PySem.W.Frag} {mg : Str → Option Value} {base : Heap} {C : Addr} (E : Fs w K mg C)
include E
theorem ok_say : MeG P w K mg base C "_say" 3 (SpM C (fun _ : SyA => []) (fun z => [.d (.str z.x), .d z.d, .d (pd z.q)]) (fun z => (.lg z.tab.D z.n, z.l.D)) (fun z k' co' => k' = .lg z.tab.D z.n ∧ co' = (z.l.sayB z.q z.x z.d).D)) := by
  obtain ⟨f, fd, F, hm⟩ := E.m__say
  refine (st_Ledger__say F (fun _ => ⟨rfl, rfl⟩) fun c I z A => ?_).m hm
  have ok := I.ok
  have hN := I.N
  have hG := I.G
  have hL := I.Lo
  have bi := I.bi E.bi
  have ld := I.ld E.ld
  have f1 := I.fn (sp := fun C => SpD C _ _) (ok_is_end E) (by omega)
  obtain ⟨tab, n, l, ⟨i, j⟩, x, d, hmk, hb, hp, hl, ⟨z1, z2, z3, z4, z5⟩⟩ := z
  obtain ⟨mk, hmk⟩ := Option.ne_none_iff_exists'.mp hmk
  have hmx : ixW (.dt l.D.m) (.d (.tuple [.int i, .int j])) = some (.d (.str mk)) := ix_dt (by rw [Lc.gt_m, hmk]; rfl)
  have htk : (decide (mk = "open") || decide (mk = "away")) = takes l (i, j) := by
    unfold takes
    rw [hmk]
    simp
  have hin := in_mark (mk := mk)
  rw [htk] at hin
  have himm : imm (.tuple [.str x, d]) = true := by
    simp [K49.imm, immAll, (payB_lay hp).2.2]
  show DSs c [some (.olg A ⟨tab.D, n, l.D⟩), some (.r (.d (.str x))), some (.r (.d d)), some (.r (.d (.tuple [.int i, .int j]))), none, none] (_ :: _) _
  cases hT : takes l (i, j) with
  | true =>
    rw [hT] at hin
    have hbx : lkp l.D.b (i, j) = some (.list ((boxOf l (i, j)).map Msg.D)) := by rw [Lc.gt_b, hb]; rfl
    have hlen : ((boxOf l (i, j)).map Msg.D).length < 1000000 := by rw [List.length_map]; omega
    have eb : pt l.D.b (i, j) (.list ((boxOf l (i, j)).map Msg.D ++ [.tuple [.str x, d]])) = (l.sayB (i, j) x d).D.b := by
      rw [Lc.D_b, Lc.D_b]
      show _ = (if takes l (i, j) then pt l.b (i, j) (boxOf l (i, j) ++ [(x, d)]) else l.b).map fun p => (p.1, boxD p.2)
      rw [hT, if_pos rfl, ← pt_mapv]
      show _ = pt _ _ (PyData.list ((boxOf l (i, j) ++ [(x, d)]).map Msg.D))
      rw [List.map_append]
      rfl
    have eo : l.D.o = (l.sayB (i, j) x d).D.o := by
      show l.o.map pd = (if takes l (i, j) then l.o else l.o ++ (endP d).toList).map pd
      rw [hT, if_pos rfl]
    wtm_at "m"
    refine ⟨d, rfl, fun w hw => ?_⟩
    cases hE : endP d with
    | none =>
      obtain rfl : w = .d (.bool false) := hw.trans (by rw [hE]; rfl)
      wtm_at "m"
      refine endM_lg rfl ⟨rfl, Co.eq rfl ?_ eb rfl eo⟩
      show _ = (l.sayB (i, j) x d).m.map fun p => (p.1, PyData.str p.2)
      simp only [Lc.sayB, markM, hE]
      rfl
    | some g =>
      obtain rfl : w = .d (.bool true) := hw.trans (by rw [hE]; rfl)
      obtain rfl := endP_shape hE
      obtain ⟨a, b⟩ := g
      wtm_at "m"
      refine endM_lg rfl ⟨rfl, Co.eq rfl ?_ eb rfl eo⟩
      show pt (l.m.map fun p => (p.1, PyData.str p.2)) (a, b) (.str "away") = (l.sayB (i, j) x _).m.map fun p => (p.1, PyData.str p.2)
      rw [pt_mapv]
      simp only [Lc.sayB, markM, hE]
  | false =>
    rw [hT] at hin
    have eb : l.D.b = (l.sayB (i, j) x d).D.b := by
      rw [Lc.D_b, Lc.D_b]
      show _ = (if takes l (i, j) then pt l.b (i, j) (boxOf l (i, j) ++ [(x, d)]) else l.b).map fun p => (p.1, boxD p.2)
      rw [hT, if_neg (by decide)]
    have eo : (l.sayB (i, j) x d).D.o = l.D.o ++ ((endP d).toList).map pd := by
      show (if takes l (i, j) then l.o else l.o ++ (endP d).toList).map pd = _
      rw [hT, if_neg (by decide), List.map_append]
      rfl
    wtm_at "m"
    refine ⟨d, rfl, fun w hw => ?_⟩
    cases hE : endP d with
    | none =>
      obtain rfl : w = .d (.bool false) := hw.trans (by rw [hE]; rfl)
      wtm_at "m"
      refine endM_lg rfl ⟨rfl, Co.eq rfl ?_ eb rfl (by rw [eo, hE]; simp)⟩
      show _ = (l.sayB (i, j) x d).m.map fun p => (p.1, PyData.str p.2)
      simp only [Lc.sayB, markM, hE]
      rfl
    | some g =>
      obtain rfl : w = .d (.bool true) := hw.trans (by rw [hE]; rfl)
      obtain rfl := endP_shape hE
      obtain ⟨a, b⟩ := g
      wtm_at "m"
      refine ⟨⟨z4, z5⟩, ?_⟩
      wtm_at "m"
      refine endM_lg rfl ⟨rfl, Co.eq rfl ?_ eb rfl (by rw [eo, hE]; rfl)⟩
      show pt (l.m.map fun p => (p.1, PyData.str p.2)) (a, b) (.str "away") = (l.sayB (i, j) x _).m.map fun p => (p.1, PyData.str p.2)
      rw [pt_mapv]
      simp only [Lc.sayB, markM, hE]
end
/-! ### the Ledger's changes: _leave -/
structure LvA where
  tab : Tab
  n : Int
  l : Lc
  p : Pl
  k : Str
  hb : gt l.b p = some (boxOf l p)
  hl : (boxOf l p).length ≤ 1000
  ho : l.o.length ≤ 100000
  sz : Sz l
theorem pl_imm : ∀ {o : List Pl}, immAll (o.map pd) = true
  | [] => by simp [immAll]
  | p :: o => by simp [immAll, pd, K49.imm, pl_imm (o := o)]
theorem pd_eqv {p q : Pl} : PyData.eqv (pd p) (pd q) = decide (p = q) := by
  obtain ⟨i, j⟩ := p
  obtain ⟨x, y⟩ := q
  show (i == x && (j == y && true)) = _
  by_cases h1 : i = x <;> by_cases h2 : j = y <;> simp [h1, h2]
section
variable {P : Program} {w : World} {K : PySem.W.Frag} {mg : Str → Option Value} {base : Heap} {C : Addr} (E : Fs w K mg C)
include E
theorem ok_leave : MeG P w K mg base C "_leave" 4 (SpM C (fun _ : LvA => []) (fun z => [.d (pd z.p), .d (.str z.k)]) (fun z => (.lg z.tab.D z.n, z.l.D)) (fun z k' co' => k' = .lg z.tab.D z.n ∧ co' = (z.l.leave z.p z.k).D)) := by
  obtain ⟨f, fd, F, hm⟩ := E.m__leave
  refine (st_Ledger__leave F (fun _ => ⟨rfl, rfl⟩) fun c I z A => ?_).m hm
  have ok := I.ok
  have hN := I.N
  have hG := I.G
  have hL := I.Lo
  have bi := I.bi E.bi
  have ld := I.ld E.ld
  have f1 := I.fn (sp := fun C => SpF C _ _) (ok_ends_of E) (by omega)
  obtain ⟨tab, n, l, ⟨i, j⟩, mk, hb, hl, ho, ⟨z1, z2, z3, z4, z5⟩⟩ := z
  have hbx : lkp l.D.b (i, j) = some (boxD (boxOf l (i, j))) := by rw [Lc.gt_b, hb]; rfl
  have hix : ∀ co : Co, co.b = l.D.b → ixW (.dt co.b) (.d (.tuple [.int i, .int j])) = some (.d (boxD (boxOf l (i, j)))) := fun co h => by rw [h]; exact ix_dt hbx
  show DSs c [some (.olg A ⟨tab.D, n, l.D⟩), some (.r (.d (.tuple [.int i, .int j]))), some (.r (.d (.str mk)))] (_ :: _) _
  have hle : (endsM (boxOf l (i, j))).length ≤ (boxOf l (i, j)).length := List.length_filterMap_le _ _
  have hsz : ∀ o : List PD, o.length ≤ 100000 → o.length + ((endsM (boxOf l (i, j))).map pd).length ≤ 1000000 := fun o h => by rw [List.length_map]; omega
  have himm : ∀ o : List PD, immAll o = true → immAll (o ++ (endsM (boxOf l (i, j))).map pd) = true := fun o h => by rw [immAll_app, h, pl_imm]; rfl
  cases hoc : l.o with
  | nil =>
    have b1 : (!l.D.o.isEmpty) = false := by show (!(l.o.map pd).isEmpty) = false; rw [hoc]; rfl
    wtm_at "m"
    refine ⟨_, hix _ rfl, ?_⟩
    wtm_at "m"
    refine ⟨⟨boxOf l (i, j), hl⟩, rfl, fun ds hds => ?_⟩
    subst hds
    refine ⟨_, rfl, hsz _ (by show (l.o.map pd).length ≤ _; rw [List.length_map]; exact ho), ?_⟩
    refine ⟨himm _ (show immAll (l.o.map pd) = true from pl_imm), ?_⟩
    wtm_at "m"
    refine endM_lg rfl ⟨rfl, Co.eq rfl (pt_mapv PyData.str (i, j) mk l.m) (pt_mapv boxD (i, j) [] l.b) rfl ?_⟩
    show l.o.map pd ++ (endsM (boxOf l (i, j))).map pd = ((if l.o.head? = some (i, j) then l.o.tail else l.o) ++ endsM (boxOf l (i, j))).map pd
    rw [hoc, List.map_append, if_neg (by simp)]
  | cons p os =>
    have b1 : (!l.D.o.isEmpty) = true := by show (!(l.o.map pd).isEmpty) = true; rw [hoc]; rfl
    have ho0 : ixW (.d (.list l.D.o)) (.d (.int 0)) = some (.d (pd p)) := by show ixW (.d (.list (l.o.map pd))) _ = _; rw [hoc]; exact ix_l0
    have o1 : eqOk (pd p) (.tuple [.int i, .int j]) = true := rfl
    have hcut : cutD l.D.o (some 1) none = os.map pd := by show cutD (l.o.map pd) _ _ = _; rw [hoc]; exact cut_tail
    have hos : os.length ≤ 100000 := by rw [hoc] at ho; simp only [List.length_cons] at ho; omega
    wtm_at "m"
    · rename_i h
      rw [show PyData.eqv (pd p) (.tuple [.int i, .int j]) = decide (p = (i, j)) from pd_eqv (q := (i, j))] at h
      have h := of_decide_eq_true h
      rw [show cutD (Led.mk tab.D n l.D).c.o (some 1) none = os.map pd from hcut]
      refine ⟨pl_imm, ?_⟩
      wtm_at "m"
      refine ⟨_, hix _ rfl, ?_⟩
      wtm_at "m"
      refine ⟨⟨boxOf l (i, j), hl⟩, rfl, fun ds hds => ?_⟩
      subst hds
      refine ⟨_, rfl, hsz _ (by show (os.map pd).length ≤ _; rw [List.length_map]; exact hos), ?_⟩
      refine ⟨himm _ (show immAll (os.map pd) = true from pl_imm), ?_⟩
      wtm_at "m"
      refine endM_lg rfl ⟨rfl, Co.eq rfl (pt_mapv PyData.str (i, j) mk l.m) (pt_mapv boxD (i, j) [] l.b) rfl ?_⟩
      show os.map pd ++ (endsM (boxOf l (i, j))).map pd = ((if l.o.head? = some (i, j) then l.o.tail else l.o) ++ endsM (boxOf l (i, j))).map pd
      rw [hoc, List.map_append, if_pos (by rw [h]; rfl)]
      rfl
    · rename_i h
      rw [show PyData.eqv (pd p) (.tuple [.int i, .int j]) = decide (p = (i, j)) from pd_eqv (q := (i, j))] at h
      have h := of_decide_eq_false h
      refine ⟨_, hix _ rfl, ?_⟩
      wtm_at "m"
      refine ⟨⟨boxOf l (i, j), hl⟩, rfl, fun ds hds => ?_⟩
      subst hds
      refine ⟨_, rfl, hsz _ (by show (l.o.map pd).length ≤ _; rw [List.length_map]; exact ho), ?_⟩
      refine ⟨himm _ (show immAll (l.o.map pd) = true from pl_imm), ?_⟩
      wtm_at "m"
      refine endM_lg rfl ⟨rfl, Co.eq rfl (pt_mapv PyData.str (i, j) mk l.m) (pt_mapv boxD (i, j) [] l.b) rfl ?_⟩
      show l.o.map pd ++ (endsM (boxOf l (i, j))).map pd = ((if l.o.head? = some (i, j) then l.o.tail else l.o) ++ endsM (boxOf l (i, j))).map pd
      rw [hoc, List.map_append, if_neg (show ¬ (p :: os).head? = some (i, j) from fun z => h (Option.some.inj z))]
end
/-! ### the Ledger's changes: _enter_open -/
structure OpA where
  tab : Tab
  n : Nat
  l : Lc
  x : Bool
  nm : Str
  s1 : l.t.length < 999990
  s2 : l.m.length < 999990
  s3 : l.b.length < 999990
  s4 : l.f.length < 999990
  s5 : l.o.length < 999990
def stg (co : Co) (n s : Int) (d : PD) : Co := { co with t := pt co.t (n, s) d, m := pt co.m (n, s) (.str "open"), b := pt co.b (n, s) (.list []) }
structure Sm (co : Co) (k : Nat) : Prop where
  t : co.t.length + k < 1000000
  m : co.m.length + k < 1000000
  b : co.b.length + k < 1000000
  f : co.f.length + k < 1000000
  o : co.o.length + k < 1000000
theorem Sm.stg {co : Co} {k : Nat} {n s : Int} {d : PD} (h : Sm co (k + 1)) : Sm (stg co n s d) k := by
  obtain ⟨h1, h2, h3, h4, h5⟩ := h
  have g1 := pt_len (r := co.t) (k := (n, s)) (d := d)
  have g2 := pt_len (r := co.m) (k := (n, s)) (d := PyData.str "open")
  have g3 := pt_len (r := co.b) (k := (n, s)) (d := PyData.list [])
  exact ⟨by show (pt co.t (n, s) d).length + k < _; omega, by show (pt co.m (n, s) (.str "open")).length + k < _; omega, by show (pt co.b (n, s) (.list [])).length + k < _; omega, by show co.f.length + k < _; omega, by show co.o.length + k < _; omega⟩
section
variable {P : Program} {w : World} {K : PySem.W.Frag} {mg : Str → Option Value} {base : Heap} {C : Addr} (E : Fs w K mg C)
include E
theorem ok_enter_open : MeG P w K mg base C "_enter_open" 4 (SpM C (fun _ : OpA => []) (fun z => [.d (Talk.ref z.x z.nm).D]) (fun z => (.lg z.tab.D z.n, z.l.D)) (fun z k' co' => k' = .lg z.tab.D (z.n + 1 : Nat) ∧ co' = (z.l.opn false z.n z.x z.nm).D)) := by
  obtain ⟨f, fd, F, hm⟩ := E.m__enter_open
  refine (st_Ledger__enter_open F (fun _ => ⟨rfl, rfl⟩) fun c I z A => ?_).m hm
  have ok := I.ok
  have hN := I.N
  have hG := I.G
  have hL := I.Lo
  have bi := I.bi E.bi
  have ld := I.ld E.ld
  have f1 := I.fn (sp := fun C => SpD C _ _) (ok_dual_kind E) (by omega)
  obtain ⟨tab, n, l, x, nm, s1, s2, s3, s4, s5⟩ := z
  have sm0 : Sm l.D 9 := ⟨by show (l.t.map _).length + _ < _; rw [List.length_map]; omega, by show (l.m.map _).length + _ < _; rw [List.length_map]; omega, by show (l.b.map _).length + _ < _; rw [List.length_map]; omega, by show (l.f.map _).length + _ < _; rw [List.length_map]; omega, by show (l.o.map _).length + _ < _; rw [List.length_map]; omega⟩
  show DSs c [some (.olg A ⟨tab.D, n, l.D⟩), some (.r (.d (Talk.ref x nm).D)), none, none] (_ :: _) _
  refine dss_cons ?_
  refine ds_forR ok bi hG (by wtm_at "k.mem") ?_
  wtm_at "k1"
  refine ⟨2, rfl, by decide, by decide, fun i env => ∃ A', env = (match i with
    | 0 => [some (.olg A' ⟨tab.D, n, l.D⟩), some (.r (.d (Talk.ref x nm).D)), none, none]
    | 1 => [some (.olg A' ⟨tab.D, n, stg l.D n 0 (Talk.ref (!x) nm).D⟩), some (.r (.d (Talk.ref x nm).D)), some (.r (.d (.int 0))), some (.r (.d (.tuple [.int n, .int 0])))]
    | _ => [some (.olg A' ⟨tab.D, n, stg (stg l.D n 0 (Talk.ref (!x) nm).D) n 1 (Talk.ref x nm).D⟩), some (.r (.d (Talk.ref x nm).D)), some (.r (.d (.int 1))), some (.r (.d (.tuple [.int n, .int 1])))]) ∧ A'.a = A.a, ⟨A, rfl, rfl⟩, ?_, ?_⟩
  · rintro i env1 hi ⟨A', rfl, hA⟩
    match i, hi with
    | 0, _ =>
      obtain ⟨z1, z2, z3, z4, z5⟩ := sm0
      have i1 : l.D.t.length < 1000000 := by omega
      have i2 : l.D.m.length < 1000000 := by omega
      have i3 : l.D.b.length < 1000000 := by omega
      have i4 : ∀ p d, (pt l.D.t p d).length < 1000000 := fun p d => Nat.lt_of_le_of_lt pt_len (by omega)
      show DG c [some (.olg A' ⟨tab.D, n, l.D⟩), some (.r (.d (Talk.ref x nm).D)), none, none] _ _ _
      wtm_at "m"
      refine ⟨(x, nm), rfl, fun w hw => ?_⟩
      subst hw
      wtm_at "m"
      refine ⟨⟨i4 _ _, i2⟩, ?_⟩
      wtm_at "m"
      exact ⟨_, rfl, hA⟩
    | 1, _ =>
      have sm1 : Sm (stg l.D n 0 (Talk.ref (!x) nm).D) 8 := sm0.stg
      generalize hco : stg l.D n 0 (Talk.ref (!x) nm).D = co at sm1
      obtain ⟨z1, z2, z3, z4, z5⟩ := sm1
      have i1 : co.t.length < 1000000 := by omega
      have i2 : co.m.length < 1000000 := by omega
      have i3 : co.b.length < 1000000 := by omega
      have i4 : ∀ p d, (pt co.t p d).length < 1000000 := fun p d => Nat.lt_of_le_of_lt pt_len (by omega)
      show DG c [some (.olg A' ⟨tab.D, n, co⟩), some (.r (.d (Talk.ref x nm).D)), some (.r (.d (.int 0))), some (.r (.d (.tuple [.int n, .int 0])))] _ _ _
      wtm_at "m"
      refine ⟨⟨i4 _ _, i2⟩, ?_⟩
      wtm_at "m"
      subst hco
      exact ⟨_, rfl, hA⟩
    | i + 2, h => omega
  · rintro env1 ⟨A', rfl, hA⟩
    show DSs c [some (.olg A' ⟨tab.D, n, stg (stg l.D n 0 (Talk.ref (!x) nm).D) n 1 (Talk.ref x nm).D⟩), some (.r (.d (Talk.ref x nm).D)), some (.r (.d (.int 1))), some (.r (.d (.tuple [.int n, .int 1])))] _ _
    have sm2 : Sm (stg (stg l.D n 0 (Talk.ref (!x) nm).D) n 1 (Talk.ref x nm).D) 7 := sm0.stg.stg
    generalize hco : stg (stg l.D n 0 (Talk.ref (!x) nm).D) n 1 (Talk.ref x nm).D = co at sm2
    obtain ⟨z1, z2, z3, z4, z5⟩ := sm2
    have i4 : co.f.length < 1000000 := by omega
    have i5 : co.o.length < 1000000 := by omega
    wtm_at "m"
    subst hco
    refine endM_lg hA ⟨?_, Co.eq ?_ ?_ ?_ ?_ rfl⟩
    · show OKd.lg tab.D ((n : Int) + 1) = OKd.lg tab.D ((n + 1 : Nat) : Int)
      rw [Int.natCast_succ]
    · show pt (pt (l.t.map fun p => (p.1, p.2.D)) ((n : Int), 0) (Talk.ref (!x) nm).D) ((n : Int), 1) (Talk.ref x nm).D = (pt (pt l.t ((n : Int), 0) (.ref (!x) nm)) ((n : Int), 1) (.ref x nm)).map fun p => (p.1, p.2.D)
      rw [pt_mapv, pt_mapv]
    · show pt (pt (l.m.map fun p => (p.1, PyData.str p.2)) ((n : Int), 0) (.str "open")) ((n : Int), 1) (.str "open") = (pt (pt l.m ((n : Int), 0) "open") ((n : Int), 1) "open").map fun p => (p.1, PyData.str p.2)
      rw [pt_mapv, pt_mapv]
    · show pt (pt (l.b.map fun p => (p.1, boxD p.2)) ((n : Int), 0) (boxD [])) ((n : Int), 1) (boxD []) = (pt (pt l.b ((n : Int), 0) []) ((n : Int), 1) []).map fun p => (p.1, boxD p.2)
      rw [pt_mapv, pt_mapv]
    · show l.f.map PyData.bool ++ [.bool false] = (l.f ++ [false]).map PyData.bool
      rw [List.map_append]
      rfl
end
/-! ### the Ledger's changes: _enter_at -/
def Ev.atSide : Ev → Option Pl
  | .say i j _ _ => some (i, j)
  | .hear i j _ _ => some (i, j)
  | .told i j => some (i, j)
  | .close i j => some (i, j)
  | .drop i j => some (i, j)
  | _ => none
structure EaA where
  tab : Tab
  n : Nat
  l : Lc
  k : Nat
  ev : Ev
  p : Pl
  hp : ev.atSide = some p
  hl : LcOk tab k l
  hk : k ≤ 100
  al : Al tab l ev
theorem LcOk.small {tab : Tab} {k : Nat} {l : Lc} (h : LcOk tab k l) (hk : k ≤ 100) : l.t.length ≤ 200 ∧ l.m.length ≤ 200 ∧ l.b.length ≤ 200 ∧ l.f.length ≤ 101 ∧ l.o.length ≤ 10000 := by
  have h1 := h.nt
  have h2 := h.nm
  have h3 := h.nb
  have h4 := h.nf
  have h5 := h.no
  have h6 : k * k ≤ 100 * 100 := Nat.mul_le_mul hk hk
  refine ⟨by omega, by omega, by omega, by omega, by omega⟩
theorem LcOk.sz {tab : Tab} {k : Nat} {l : Lc} (h : LcOk tab k l) (hk : k ≤ 100) : Sz l := by
  obtain ⟨h1, h2, h3, h4, h5⟩ := h.small hk
  exact ⟨by rw [Lc.D_t, List.length_map]; omega, by rw [Lc.D_m, List.length_map]; omega, by rw [Lc.D_b, List.length_map]; omega, by show (l.f.map _).length < _; rw [List.length_map]; omega, by show (l.o.map _).length < _; rw [List.length_map]; omega⟩
theorem Sz.putT {l : Lc} (h : Sz l) {p : Pl} {u : Talk} (h2 : l.t.length ≤ 1000) : Sz { l with t := pt l.t p u } := by
  refine ⟨?_, h.m, h.b, h.f, h.o⟩
  have := pt_len (r := l.t) (k := p) (d := u)
  rw [Lc.D_t, List.length_map]
  show (pt l.t p u).length < _
  omega
section
variable {P : Program} {w : World} {K : PySem.W.Frag} {mg : Str → Option Value} {base : Heap} {C : Addr} (E : Fs w K mg C)
include E
theorem ok_enter_at : MeG P w K mg base C "_enter_at" 7 (SpM C (fun _ : EaA => []) (fun z => [.d z.ev.D, .d (pd z.p)]) (fun z => (.lg z.tab.D z.n, z.l.D)) (fun z k' co' => k' = .lg z.tab.D z.n ∧ co' = (z.l.app z.tab false z.ev).D)) := by
  obtain ⟨f, fd, F, hm⟩ := E.m__enter_at
  refine (st_Ledger__enter_at F (fun _ => ⟨rfl, rfl⟩) fun c I z A => ?_).m hm
  have ok := I.ok
  have hN := I.N
  have hG := I.G
  have hL := I.Lo
  have bi := I.bi E.bi
  have ld := I.ld E.ld
  have f1 := I.fn (sp := fun C => SpD C _ _) (ok_head E) (by omega)
  have f2 := I.fn (sp := fun C => SpD C _ _) (ok_row_of E) (by omega)
  have f3 := I.me (sp := fun C => SpM C _ _ _ _) (ok_say E) (by omega)
  have f4 := I.me (sp := fun C => SpM C _ _ _ _) (ok_hear E) (by omega)
  have f5 := I.me (sp := fun C => SpM C _ _ _ _) (ok_leave E) (by omega)
  obtain ⟨tab, n, l, k, ev, ⟨i, j⟩, hp, hl, hk, al⟩ := z
  have hsz := hl.sz hk
  obtain ⟨l1, l2, l3, l4, l5⟩ := hl.small hk
  cases ev with
  | say i' j' x d =>
    obtain ⟨rfl, rfl⟩ := Prod.mk.inj (Option.some.inj hp)
    obtain ⟨t, rs, kd, u, r1, r2, r3⟩ := al.row
    have hmp : gt l.m (i', j') ≠ none := some_ne al.here
    obtain ⟨hnx, hTU, hkd⟩ := hl.next r1 hmp r2 r3
    obtain ⟨t', e1, e2⟩ := hl.t _ hmp
    rw [r1] at e1; cases e1
    have hix : ixW (.dt l.D.t) (.d (.tuple [.int i', .int j'])) = some (.d t.D) := ix_dt (by rw [Lc.gt_t, r1]; rfl)
    have himm : immW (.d (.tuple [.str x, kd.D, u.D])) = true := by
      show imm _ = true
      have : imm kd.D = true := by cases kd <;> simp [Kind.D, K49.imm, immAll]
      simp [K49.imm, immAll, this, Talk.imm u]
    have t1 := hsz.t
    have t2 := hsz.m
    have hz1 : Sz { l with t := pt l.t (i', j') u } := hsz.putT (by omega)
    show DSs c [some (.olg A ⟨tab.D, n, l.D⟩), some (.r (.d (.tuple [.str "say", .int i', .int j', .str x, d]))), some (.r (.d (.tuple [.int i', .int j']))), none, none] (_ :: _) _
    wtm_at "m"
    refine ⟨⟨(tab, t), e2.toTA⟩, rfl, fun w hw => ?_⟩
    obtain rfl : w = .d (Talk.act true rs).D := hw.trans (congrArg (fun t : Talk => W.d t.D) r2)
    wtm_at "m"
    refine ⟨⟨(.act true rs, x), rfl⟩, rfl, fun w hw => ?_⟩
    obtain rfl : w = .d (.tuple [.str x, kd.D, u.D]) := hw.trans (by show W.d (rowD x (rs.find x)) = _; rw [r3]; rfl)
    wtm_at "m"
    refine ⟨⟨tab, n, { l with t := pt l.t (i', j') u }, (i', 1 - j'), x, d, hl.pa _ hmp, hl.box (hl.pa _ hmp), al.pay, ?_, hz1⟩, rfl, Prod.ext rfl (Co.eq (pt_mapv Talk.D (i', j') u l.t).symm rfl rfl rfl rfl), rfl, fun k' co' A' hpo hA => ?_⟩
    · have := (hl.bx _ _ (hl.box (hl.pa _ hmp))).1
      show (boxOf l (oth (i', j'))).length < 1000
      omega
    · obtain ⟨rfl, rfl⟩ := hpo
      show ∃ env', Up _ _ _ (.olg A' ⟨_, _, _⟩) env' ∧ _
      wtm_at "m"
      refine endM_lg hA ⟨rfl, ?_⟩
      show _ = (l.say (i', j') x d (nextT tab l (i', j') x)).D
      rw [hnx]
      rfl
  | hear i' j' x d =>
    obtain ⟨r, hbx⟩ := al.box
    obtain ⟨rfl, rfl⟩ := Prod.mk.inj (Option.some.inj hp)
    obtain ⟨t, rs, kd, u, r1, r2, r3⟩ := al.row
    have hmp : gt l.m (i', j') ≠ none := some_ne al.here
    obtain ⟨hnx, hTU, hkd⟩ := hl.next r1 hmp r2 r3
    obtain ⟨t', e1, e2⟩ := hl.t _ hmp
    rw [r1] at e1; cases e1
    have hix : ixW (.dt l.D.t) (.d (.tuple [.int i', .int j'])) = some (.d t.D) := ix_dt (by rw [Lc.gt_t, r1]; rfl)
    have himm : immW (.d (.tuple [.str x, kd.D, u.D])) = true := by
      show imm _ = true
      have : imm kd.D = true := by cases kd <;> simp [Kind.D, K49.imm, immAll]
      simp [K49.imm, immAll, this, Talk.imm u]
    have t1 := hsz.t
    have t2 := hsz.m
    have hz1 : Sz { l with t := pt l.t (i', j') u } := hsz.putT (by omega)
    show DSs c [some (.olg A ⟨tab.D, n, l.D⟩), some (.r (.d (.tuple [.str "hear", .int i', .int j', .str x, d]))), some (.r (.d (.tuple [.int i', .int j']))), none, none] (_ :: _) _
    wtm_at "m"
    refine ⟨⟨(tab, t), e2.toTA⟩, rfl, fun w hw => ?_⟩
    obtain rfl : w = .d (Talk.act false rs).D := hw.trans (congrArg (fun t : Talk => W.d t.D) r2)
    wtm_at "m"
    refine ⟨⟨(.act false rs, x), rfl⟩, rfl, fun w hw => ?_⟩
    obtain rfl : w = .d (.tuple [.str x, kd.D, u.D]) := hw.trans (by show W.d (rowD x (rs.find x)) = _; rw [r3]; rfl)
    wtm_at "m"
    refine ⟨⟨tab, n, { l with t := pt l.t (i', j') u }, (i', j'), x, d, r, hbx, fun m hm => ((hl.bx _ _ hbx).2 m hm).1, by show l.m.length < _; omega, by show l.b.length < _; omega, ?_⟩, rfl, Prod.ext rfl (Co.eq (pt_mapv Talk.D (i', j') u l.t).symm rfl rfl rfl rfl), rfl, fun k' co' A' hpo hA => ?_⟩
    · have := pt_len (r := l.t) (k := (i', j')) (d := u)
      show (pt l.t (i', j') u).length < _
      omega
    · obtain ⟨rfl, rfl⟩ := hpo
      show ∃ env', Up _ _ _ (.olg A' ⟨_, _, _⟩) env' ∧ _
      wtm_at "m"
      refine endM_lg hA ⟨rfl, ?_⟩
      show _ = (l.hear (i', j') d (nextT tab l (i', j') x)).D
      rw [hnx]
      rfl
  | told i' j' =>
    obtain ⟨rfl, rfl⟩ := Prod.mk.inj (Option.some.inj hp)
    have hmp : gt l.m (i', j') ≠ none := some_ne al.1
    show DSs c [some (.olg A ⟨tab.D, n, l.D⟩), some (.r (.d (.tuple [.str "told", .int i', .int j']))), some (.r (.d (.tuple [.int i', .int j']))), none, none] (_ :: _) _
    wtm_at "m"
    refine ⟨⟨tab, n, l, (i', j'), "closed", hl.box hmp, by have := (hl.bx _ _ (hl.box hmp)).1; omega, by omega, hsz⟩, rfl, rfl, rfl, fun k' co' A' hpo hA => ?_⟩
    obtain ⟨rfl, rfl⟩ := hpo
    show ∃ env', Up _ _ _ (.olg A' ⟨_, _, _⟩) env' ∧ _
    wtm_at "m"
    exact endM_lg hA ⟨rfl, rfl⟩
  | close i' j' =>
    obtain ⟨rfl, rfl⟩ := Prod.mk.inj (Option.some.inj hp)
    have hmp : gt l.m (i', j') ≠ none := some_ne (show gt l.m (i', j') = some "open" from al)
    show DSs c [some (.olg A ⟨tab.D, n, l.D⟩), some (.r (.d (.tuple [.str "close", .int i', .int j']))), some (.r (.d (.tuple [.int i', .int j']))), none, none] (_ :: _) _
    wtm_at "m"
    refine ⟨⟨tab, n, l, (i', j'), "closed", hl.box hmp, by have := (hl.bx _ _ (hl.box hmp)).1; omega, by omega, hsz⟩, rfl, rfl, rfl, fun k' co' A' hpo hA => ?_⟩
    obtain ⟨rfl, rfl⟩ := hpo
    show ∃ env', Up _ _ _ (.olg A' ⟨_, _, _⟩) env' ∧ _
    wtm_at "m"
    exact endM_lg hA ⟨rfl, rfl⟩
  | drop i' j' =>
    obtain ⟨rfl, rfl⟩ := Prod.mk.inj (Option.some.inj hp)
    have hmp : gt l.m (i', j') ≠ none := al.elim (fun h => some_ne h) (fun h => h.1)
    show DSs c [some (.olg A ⟨tab.D, n, l.D⟩), some (.r (.d (.tuple [.str "drop", .int i', .int j']))), some (.r (.d (.tuple [.int i', .int j']))), none, none] (_ :: _) _
    wtm_at "m"
    refine ⟨⟨tab, n, l, (i', j'), "fallen", hl.box hmp, by have := (hl.bx _ _ (hl.box hmp)).1; omega, by omega, hsz⟩, rfl, rfl, rfl, fun k' co' A' hpo hA => ?_⟩
    obtain ⟨rfl, rfl⟩ := hpo
    show ∃ env', Up _ _ _ (.olg A' ⟨_, _, _⟩) env' ∧ _
    wtm_at "m"
    exact endM_lg hA ⟨rfl, rfl⟩
  | _ => cases hp
end
/-! ### the Ledger's changes: enter -/
structure EnA where
  L : Lg
  k : Nat
  e : EvA
  ev : Ev
  he : e.D = ev.D
  hl : LcOk L.tab k L.c
  hk : k ≤ 100
  ar : AlR L e.nm e.ds true
  al : Al L.tab L.c ev
  hn : ∀ a c n x nm, ev = .opn a c n x nm → n = L.n
section
variable {P : Program} {w : World} {K : PySem.W.Frag} {mg : Str → Option Value} {base : Heap} {C : Addr} (E : Fs w K mg C)
include E
theorem ok_enter : MeG P w K mg base C "enter" 12 (SpM C (fun _ : EnA => []) (fun z => [.d z.ev.D]) (fun z => (.lg z.L.tab.D z.L.n, z.L.c.D)) (fun z k' co' => k' = .lg z.L.tab.D (z.L.app z.ev).n ∧ co' = (z.L.app z.ev).c.D)) := by
  obtain ⟨f, fd, F, hm⟩ := E.m_enter
  refine (st_Ledger_enter F (fun _ => ⟨rfl, rfl⟩) fun c I z A => ?_).m hm
  have ok := I.ok
  have hN := I.N
  have hG := I.G
  have hL := I.Lo
  have bi := I.bi E.bi
  have ld := I.ld E.ld
  have f1 := I.me (sp := fun C => SpD C _ _) (ok_allows E) (by omega)
  have f2 := I.me (sp := fun C => SpM C _ _ _ _) (ok_enter_open E) (by omega)
  have f3 := I.me (sp := fun C => SpM C _ _ _ _) (ok_enter_at E) (by omega)
  obtain ⟨⟨tab, n, l⟩, k, e, ev, he, hl, hk, ar, al, hopn⟩ := z
  have hsz := hl.sz hk
  obtain ⟨l1, l2, l3, l4, l5⟩ : l.t.length ≤ 200 ∧ l.m.length ≤ 200 ∧ l.b.length ≤ 200 ∧ l.f.length ≤ 101 ∧ l.o.length ≤ 10000 := hl.small hk
  have fin : ∀ {a : Int}, actP l.f a → ixN l.D.f.length a = some a.toNat := fun {a} ha => by
    have h0 : l.D.f.length = l.f.length := by show (l.f.map _).length = _; rw [List.length_map]
    rw [h0]
    obtain ⟨h1, h2⟩ := ha
    obtain ⟨m, rfl⟩ := Int.eq_ofNat_of_zero_le h1
    unfold ixN
    simp
    omega
  have fse : ∀ {a : Int}, (l.D.f.set a.toNat (.bool true)) = (l.fin a).f.map PyData.bool := fun {a} => by
    show (l.f.map PyData.bool).set a.toNat (PyData.bool true) = (l.f.set a.toNat true).map PyData.bool
    rw [List.map_set]
  simp only at he hl ar al hopn
  show DSs c [some (.olg A ⟨tab.D, n, l.D⟩), some (.r (.d ev.D)), none] (_ :: _) _
  wtm_at "m"
  refine ⟨⟨⟨tab, n, l⟩, k, e, hl⟩, congrArg (fun d => [W.lg (Lg.D ⟨tab, n, l⟩), W.d d]) he.symm, fun w hw => ?_⟩
  obtain ⟨b, hb, rfl⟩ := hw
  obtain rfl : b = true := hb.det ar
  cases ev with
  | opn a cc m x nm =>
    obtain rfl := hopn _ _ _ _ _ rfl
    wtm_at "m"
    refine ⟨⟨tab, n, l, x, nm, by omega, by omega, by omega, by omega, by omega⟩, rfl, rfl, rfl, fun k' co' A' hpo hA => ?_⟩
    obtain ⟨rfl, rfl⟩ := hpo
    show ∃ env', Up _ _ _ (.olg A' ⟨_, _, _⟩) env' ∧ _
    wtm_at "m"
    exact endM_lg hA ⟨rfl, rfl⟩
  | done a =>
    wtm_at "m"
    refine ⟨a, a.toNat, rfl, fin al, ?_⟩
    wtm_at "m"
    exact endM_lg rfl ⟨rfl, Co.eq rfl rfl rfl fse rfl⟩
  | fall a =>
    wtm_at "m"
    refine ⟨a, a.toNat, rfl, fin al, ?_⟩
    wtm_at "m"
    exact endM_lg rfl ⟨rfl, Co.eq rfl rfl rfl fse rfl⟩
  | become a x =>
    wtm_at "m"
    exact endM_lg rfl ⟨rfl, rfl⟩
  | say i j x d =>
    wtm_at "m"
    refine ⟨⟨tab, n, l, k, .say i j x d, (i, j), rfl, hl, hk, al⟩, rfl, rfl, rfl, fun k' co' A' hpo hA => ?_⟩
    obtain ⟨rfl, rfl⟩ := hpo
    show ∃ env', Up _ _ _ (.olg A' ⟨_, _, _⟩) env' ∧ _
    wtm_at "m"
    exact endM_lg hA ⟨rfl, rfl⟩
  | hear i j x d =>
    wtm_at "m"
    refine ⟨⟨tab, n, l, k, .hear i j x d, (i, j), rfl, hl, hk, al⟩, rfl, rfl, rfl, fun k' co' A' hpo hA => ?_⟩
    obtain ⟨rfl, rfl⟩ := hpo
    show ∃ env', Up _ _ _ (.olg A' ⟨_, _, _⟩) env' ∧ _
    wtm_at "m"
    exact endM_lg hA ⟨rfl, rfl⟩
  | told i j =>
    wtm_at "m"
    refine ⟨⟨tab, n, l, k, .told i j, (i, j), rfl, hl, hk, al⟩, rfl, rfl, rfl, fun k' co' A' hpo hA => ?_⟩
    obtain ⟨rfl, rfl⟩ := hpo
    show ∃ env', Up _ _ _ (.olg A' ⟨_, _, _⟩) env' ∧ _
    wtm_at "m"
    exact endM_lg hA ⟨rfl, rfl⟩
  | close i j =>
    wtm_at "m"
    refine ⟨⟨tab, n, l, k, .close i j, (i, j), rfl, hl, hk, al⟩, rfl, rfl, rfl, fun k' co' A' hpo hA => ?_⟩
    obtain ⟨rfl, rfl⟩ := hpo
    show ∃ env', Up _ _ _ (.olg A' ⟨_, _, _⟩) env' ∧ _
    wtm_at "m"
    exact endM_lg hA ⟨rfl, rfl⟩
  | drop i j =>
    wtm_at "m"
    refine ⟨⟨tab, n, l, k, .drop i j, (i, j), rfl, hl, hk, al⟩, rfl, rfl, rfl, fun k' co' A' hpo hA => ?_⟩
    obtain ⟨rfl, rfl⟩ := hpo
    show ∃ env', Up _ _ _ (.olg A' ⟨_, _, _⟩) env' ∧ _
    wtm_at "m"
    exact endM_lg hA ⟨rfl, rfl⟩
end
/-! ### Ledger(..), owed -/
structure Stg (C : Addr) (dx : Addr) (H Hc : Hp) (x : Addr) (fs : List (Str × V)) (l : List (Addr × HO)) : Prop where
  me : Hc x = some (.ins C dx fs)
  its : ∀ q ∈ l, Hc q.1 = some q.2
  keep : ∀ a o, H a = some o → a ≠ x → Hc a = some o
  nd : (l.map (·.1)).Nodup
  new : ∀ a ∈ l.map (·.1), H a = none ∧ a ≠ x
  hx : H x ≠ none
theorem Stg.fld {C dx : Addr} {H Hc : Hp} {x : Addr} {fs fs' : List (Str × V)} {l : List (Addr × HO)} (h : Stg C dx H Hc x fs l) : Stg C dx H (upd Hc x (.ins C dx fs')) x fs' l where
  me := upd_same
  its := fun q hq => by rw [upd_ne (h.new _ (List.mem_map.mpr ⟨q, hq, rfl⟩)).2]; exact h.its q hq
  keep := fun a o e hn => by rw [upd_ne hn]; exact h.keep a o e hn
  nd := h.nd
  new := h.new
  hx := h.hx
theorem Stg.add {C dx : Addr} {H Hc : Hp} {x p : Addr} {fs : List (Str × V)} {l : List (Addr × HO)} {o : HO} (h : Stg C dx H Hc x fs l) (hp : Hc p = none) : Stg C dx H (upd Hc p o) x fs ((p, o) :: l) := by
  have px : p ≠ x := fun e => by rw [e, h.me] at hp; cases hp
  have pH : H p = none := by
    cases e : H p with
    | none => rfl
    | some u => rw [h.keep p u e px] at hp; cases hp
  have pl : p ∉ l.map (·.1) := fun hm => by
    obtain ⟨q, hq, e⟩ := List.mem_map.mp hm
    rw [← e, h.its q hq] at hp
    cases hp
  refine ⟨by rw [upd_ne (Ne.symm px)]; exact h.me, fun q hq => ?_, fun a u e hn => ?_, ?_, fun a ha => ?_, h.hx⟩
  · rcases List.mem_cons.mp hq with z | z
    · subst z; exact upd_same
    · rw [upd_ne fun e => pl (List.mem_map.mpr ⟨q, z, e⟩)]
      exact h.its q z
  · rw [upd_ne fun z => by rw [z, pH] at e; cases e]
    exact h.keep a u e hn
  · rw [List.map_cons, List.nodup_cons]
    exact ⟨pl, h.nd⟩
  · rcases List.mem_cons.mp ha with z | z
    · subst z; exact ⟨pH, px⟩
    · exact h.new a z
section
variable {P : Program} {w : World} {K : PySem.W.Frag} {mg : Str → Option Value} {base : Heap} {C : Addr} (E : Fs w K mg C)
include E
theorem ok_init : MkG P w K mg base C "Ledger" 1 (SpI C) := by
  obtain ⟨f, fd, F, M, hmg⟩ := E.init
  have hdict : mg "dict" = none := E.bi.dict
  have cls := E.ld.cl
  have na := E.ld.na
  refine ⟨f, ⟨fd, ["self", "table"], F.ok sc_Ledger___init__ (fun vs H Q E h => ?_) (fun cdv A outer s H vs Q E hr h => ?_), F.bindsN fun _ _ _ _ _ _ us hl => match us, hl with | [_, _], _ => by kernel_rfl⟩, M, hmg⟩
  · obtain ⟨x, dx, tbv, tab, S, rfl, _⟩ := h
    rfl
  · refine ⟨_, PSs.nox (pss_cons (ps_fld (pv 0) (pe_callTy call_dictD rfl hdict PyProof.Rows.boot_dict (pa_cons (pv 1) pa_nil)) rfl) (pss_cons (ps_fld (pv 0) pe_dnewT rfl) (pss_cons (ps_fld (pv 0) pe_dnewT rfl) (pss_cons (ps_fld (pv 0) pe_dnewT rfl) (pss_cons (ps_fld (pv 0) pe_int rfl) (pss_cons (ps_fld (pv 0) (pe_lst (pa_cons pe_bl pa_nil)) rfl) (pss_one (ps_fld (pv 0) (pe_lst pa_nil) rfl)))))))), ?_⟩
    obtain ⟨x, dx, tbv, tab, S, rfl, hx, sx, hS, ⟨a0, ks, rfl, ha0, hks⟩, hq⟩ := h
    have st0 : Stg C dx H H x [] [] := ⟨hx, fun q hq => (by cases hq), fun a o e _ => e, (by simp), fun a ha => (by simp at ha), (by rw [hx]; simp)⟩
    refine ⟨_, rfl, a0, ks, rfl, .inl (hS _ _ ha0), fun p0 h0 => ?_⟩
    have s0 := st0.add (o := .dK ks) h0
    refine ⟨_, rfl, x, C, dx, _, rfl, s0.me, cls, na _ (by decide), (by decide : 0 < 1000), ?_⟩
    have s0' := s0.fld (fs' := putF ("_table" : Str) (V.ref p0) [])
    intro p1 h1
    have s1 := s0'.add (o := .dT []) h1
    refine ⟨_, rfl, x, C, dx, _, rfl, s1.me, cls, na _ (by decide), (by decide : 1 < 1000), ?_⟩
    have s1' := s1.fld (fs' := (putF ("_talks" : Str) (V.ref p1) (putF ("_table" : Str) (V.ref p0) [])))
    intro p2 h2
    have s2 := s1'.add (o := .dT []) h2
    refine ⟨_, rfl, x, C, dx, _, rfl, s2.me, cls, na _ (by decide), (by decide : 2 < 1000), ?_⟩
    have s2' := s2.fld (fs' := (putF ("_marks" : Str) (V.ref p2) (putF ("_talks" : Str) (V.ref p1) (putF ("_table" : Str) (V.ref p0) []))))
    intro p3 h3
    have s3 := s2'.add (o := .dT []) h3
    refine ⟨_, rfl, x, C, dx, _, rfl, s3.me, cls, na _ (by decide), (by decide : 3 < 1000), ?_⟩
    have s3' := s3.fld (fs' := (putF ("_boxes" : Str) (V.ref p3) (putF ("_marks" : Str) (V.ref p2) (putF ("_talks" : Str) (V.ref p1) (putF ("_table" : Str) (V.ref p0) [])))))
    refine ⟨_, rfl, x, C, dx, _, rfl, s3'.me, cls, na _ (by decide), (by decide : 4 < 1000), ?_⟩
    have s4' := s3'.fld (fs' := (putF ("_opened" : Str) (V.int 0) (putF ("_boxes" : Str) (V.ref p3) (putF ("_marks" : Str) (V.ref p2) (putF ("_talks" : Str) (V.ref p1) (putF ("_table" : Str) (V.ref p0) []))))))
    refine ⟨by decide, fun p5 h5 => ?_⟩
    have s5 := s4'.add (o := .lst [.bl false]) h5
    refine ⟨_, rfl, x, C, dx, _, rfl, s5.me, cls, na _ (by decide), (by decide : 5 < 1000), ?_⟩
    have s5' := s5.fld (fs' := (putF ("_finished" : Str) (V.ref p5) (putF ("_opened" : Str) (V.int 0) (putF ("_boxes" : Str) (V.ref p3) (putF ("_marks" : Str) (V.ref p2) (putF ("_talks" : Str) (V.ref p1) (putF ("_table" : Str) (V.ref p0) [])))))))
    refine ⟨by decide, fun p6 h6 => ?_⟩
    have s6 := s5'.add (o := .lst []) h6
    refine ⟨_, rfl, x, C, dx, _, rfl, s6.me, cls, na _ (by decide), (by decide : 6 < 1000), ?_⟩
    have s6' := s6.fld (fs' := (putF ("_owed" : Str) (V.ref p6) (putF ("_finished" : Str) (V.ref p5) (putF ("_opened" : Str) (V.int 0) (putF ("_boxes" : Str) (V.ref p3) (putF ("_marks" : Str) (V.ref p2) (putF ("_talks" : Str) (V.ref p1) (putF ("_table" : Str) (V.ref p0) []))))))))
    have i6 := s6'.its (p6, .lst []) (by simp)
    have i5 := s6'.its (p5, .lst [.bl false]) (by simp)
    have i3 := s6'.its (p3, .dT []) (by simp)
    have i2 := s6'.its (p2, .dT []) (by simp)
    have i1 := s6'.its (p1, .dT []) (by simp)
    have i0 := s6'.its (p0, .dK ks) (by simp)
    have hme := s6'.me
    have nd := s6'.nd
    have nw := s6'.new
    have kp := s6'.keep
    simp only [List.map_cons, List.map_nil, List.nodup_cons, List.mem_cons, List.not_mem_nil, or_false, not_or] at nd nw
    obtain ⟨⟨a65, a63, a62, a61, a60⟩, ⟨a53, a52, a51, a50⟩, ⟨a32, a31, a30⟩, ⟨a21, a20⟩, a10, _⟩ := nd
    have q0 := nw p0 (by simp)
    have q1 := nw p1 (by simp)
    have q2 := nw p2 (by simp)
    have q3 := nw p3 (by simp)
    have q5 := nw p5 (by simp)
    have q6 := nw p6 (by simp)
    have sp0 : S p0 = none := hS.free q0.1
    have sm : Same S (upd S p0 (.dK ks)) := same_upd sp0
    refine hq ⟨x, p1, p2, p3, p5, p6, []⟩ _ (upd S p0 (.dK ks)) rfl kp ⟨sm, fun a o e => ?_, fun a o e hn => ?_⟩ (fun a ha => ?_) ⟨dx, .ref p0, hme, p0, ks, rfl, upd_same, KvS.mono sm hks⟩
      ⟨⟨[], i1, .nil⟩, ⟨[], i2, .nil⟩, ⟨[], i3, trivial, by simp [blank]⟩, ⟨[.bl false], i5, .cons (.bl _) .nil⟩, ⟨[], i6, .nil⟩⟩ ?_
    · by_cases h : a = p0
      · subst h; rw [upd_same] at e; cases e; exact i0
      · rw [upd_ne h] at e
        exact kp a o (hS a o e) fun z => by rw [z, sx] at e; cases e
    · by_cases h : a = p0
      · subst h; exact .inl q0.1
      · rw [upd_ne h, hn] at e; cases e
    · have su : ∀ y, ¬ y = p0 → (y = x ∨ H y = none) → upd S p0 (.dK ks) y = none := fun y hy hz => by
        rw [upd_ne hy]
        rcases hz with z | z
        · rw [z]; exact sx
        · exact hS.free z
      simp only [Ad.fp, List.mem_cons, List.not_mem_nil, or_false] at ha
      rcases ha with rfl | rfl | rfl | rfl | rfl | rfl
      · exact ⟨.inl rfl, su _ (Ne.symm q0.2) (.inl rfl), _, hme, rfl⟩
      · exact ⟨.inr q1.1, su _ a10 (.inr q1.1), _, i1, rfl⟩
      · exact ⟨.inr q2.1, su _ a20 (.inr q2.1), _, i2, rfl⟩
      · exact ⟨.inr q3.1, su _ a30 (.inr q3.1), _, i3, rfl⟩
      · exact ⟨.inr q5.1, su _ a50 (.inr q5.1), _, i5, rfl⟩
      · exact ⟨.inr q6.1, su _ a60 (.inr q6.1), _, i6, rfl⟩
    · show [x, p1, p2, p3, p5, p6].Nodup
      simp only [List.nodup_cons, List.mem_cons, List.not_mem_nil, or_false, not_or, not_false_eq_true, List.nodup_nil, and_true]
      refine ⟨⟨Ne.symm q1.2, Ne.symm q2.2, Ne.symm q3.2, Ne.symm q5.2, Ne.symm q6.2⟩, ?_⟩
      exact ⟨⟨Ne.symm a21, Ne.symm a31, Ne.symm a51, Ne.symm a61⟩, ⟨Ne.symm a32, Ne.symm a52, Ne.symm a62⟩, ⟨Ne.symm a53, Ne.symm a63⟩, Ne.symm a65⟩
end
/-! ### owed, judge -/
structure JgA where
  tab : Tab
  tr : List EvA
  ok : tab.Ok
  len : tr.length ≤ 100
/-- what judge's None tells -/
def Acc (tab : Tab) (tr : List EvA) : Prop := ∃ es L, tr.map EvA.D = es.map Ev.D ∧ Run tab es L ∧ ∀ e ∈ es, e.good
section
variable {P : Program} {w : World} {K : PySem.W.Frag} {mg : Str → Option Value} {base : Heap} {C : Addr} (E : Fs w K mg C)
include E
theorem ok_owed : MeG P w K mg base C "owed" 1 (SpF C (fun L : Lg => [.lg L.D]) (fun L r => r = L.c.o.map pd)) := by
  obtain ⟨f, fd, F, hm⟩ := E.m_owed
  refine (st_Ledger_owed F (fun _ => rfl) fun c I L => ?_).m hm
  have ok := I.ok
  have hN := I.N
  have hG := I.G
  have bi := I.bi E.bi
  have ld := I.ld E.ld
  show DSs c [some (.r (.lg L.D))] (_ :: _) _
  refine dss_one (ds_retF ?_)
  wtm_at "w"
  refine ⟨_, rfl, rfl⟩
theorem ok_judge : FnG P w K mg base "judge" 14 (SpD C (fun z : JgA => [.tb z.tab.D, .d (.list (z.tr.map EvA.D))]) (fun z r => (r = .d .none ∧ Acc z.tab z.tr) ∨ ∃ i : Int, r = .d (.int i))) := by
  obtain ⟨f, fd, F, hm⟩ := E.d_judge
  refine (st_judge F (fun _ => rfl) fun c I z => ?_).g hm F.kp
  have ok := I.ok
  have hN := I.N
  have hG := I.G
  have hL := I.Lo
  have bi := I.bi E.bi
  have ld := I.ld E.ld
  have f0 : MkG c.P c.w c.K c.mg c.base c.C "Ledger" 1 (SpI c.C) := by rw [I.P, I.w, I.K, I.mg, I.base, I.C]; exact ok_init E
  have f1 := I.me (sp := fun C => SpD C _ _) (ok_allows E) (by omega)
  have f2 := I.me (sp := fun C => SpM C _ _ _ _) (ok_enter E) (by omega)
  have f3 := I.me (sp := fun C => SpF C _ _) (ok_owed E) (by omega)
  obtain ⟨tab, tr, tok, htr⟩ := z
  show DSs c [some (.r (.tb tab.D)), some (.r (.d (.list (tr.map EvA.D)))), none, none] (_ :: _) _
  refine dss_cons (ds_newL ok hN (by wtm_at "k.mem") hL (by wtm_at "k.mem") (by rw [I.k]; decide) f0 hG (by wtm_at "k.mem") ?_)
  wtm_at "k1"
  refine ⟨_, rfl, fun A => ?_⟩
  wtm_at "k1"
  refine dss_cons (ds_forR ok bi hG (by wtm_at "k.mem") ?_)
  have hlw : lenW (.d (.list (tr.map EvA.D))) = some (tr.length : Int) := by show some ((tr.map EvA.D).length : Int) = _; rw [List.length_map]
  refine de_lenR ok bi hN hG (by wtm_at "k.mem") (by wtm_at "k.lk") ⟨_, hlw, ?_⟩
  refine ⟨_, rfl, by omega, by omega, fun i env => ∃ A L es q, env = [some (.r (.tb tab.D)), some (.r (.d (.list (tr.map EvA.D)))), some (.olg A ⟨L.tab.D, L.n, L.c.D⟩), q] ∧ (q = none ∨ ∃ w, q = some (.r w)) ∧ Run tab es L ∧ (tr.take i).map EvA.D = es.map Ev.D ∧ (∀ e ∈ es, e.good), ⟨A, Lg.init tab, [], none, rfl, .inl rfl, .nil, rfl, fun e he => by cases he⟩, ?_, ?_⟩
  · rintro i env1 hi ⟨A, L, es, q, rfl, _, hr, hes, hg⟩
    have hi' : i < tr.length := by omega
    have hix : ixW (.d (.list (tr.map EvA.D))) (.d (.int (i : Int))) = some (.d (tr[i]).D) := by
      rw [ix_ln (by rw [List.length_map]; exact hi')]
      simp [nth, List.getD_eq_getElem?_getD, hi']
    have G0 := (Run.inv tok hr hg).g
    have htb := G0.tb
    have hle : es.length = i := by
      have := congrArg List.length hes
      rw [List.length_map, List.length_map, List.length_take] at this
      omega
    have G : GInv L.tab es.length L := by rw [htb]; exact G0
    have hk : es.length ≤ 100 := by omega
    wtm_at "m"
    refine ⟨⟨L, es.length, tr[i], G.lc⟩, rfl, fun w hw => ?_⟩
    obtain ⟨b, hb, rfl⟩ := hw
    cases b with
    | false =>
      wtm_at "m"
      exact .inr ⟨_, rfl⟩
    | true =>
      obtain ⟨ev, h1, h2, h3, h4⟩ := hb.al G
      wtm_at "m"
      refine ⟨⟨L, es.length, tr[i], ev, h1, G.lc, hk, hb, h2, h3⟩, rfl, rfl, ?_, fun k' co' A' hpo hA => ?_⟩
      · show [W.d ev.D] = [W.d (tr[i]).D]
        rw [h1]
      · obtain ⟨rfl, rfl⟩ := hpo
        show ∃ env', Up _ _ _ (.olg A' ⟨_, _, _⟩) env' ∧ _
        wtm_at "m"
        refine ⟨A', L.app ev, es ++ [ev], _, rfl, .inr ⟨_, rfl⟩, hr.snoc (by rw [← htb]; exact h2) h3, ?_, fun e he => ?_⟩
        · rw [List.take_succ_eq_append_getElem hi', List.map_append, List.map_append, hes]
          show _ ++ [(tr[i]).D] = _ ++ [ev.D]
          rw [h1]
        · rcases List.mem_append.mp he with z | z
          · exact hg e z
          · obtain rfl := List.mem_singleton.mp z
            exact h4
  · rintro env1 ⟨A, L, es, q, rfl, hq, hr, hes, hg⟩
    have hac : Acc tab tr := ⟨es, L, by rw [← hes]; simp, hr, hg⟩
    rcases hq with rfl | ⟨w, rfl⟩ <;> (
      wtm_at "m"
      refine ⟨L, rfl, fun ds hds => ?_⟩
      refine ⟨_, rfl, ?_⟩
      wtm_at "m"
      all_goals first
        | exact .inl ⟨rfl, hac⟩
        | exact .inr ⟨_, rfl⟩)
end
/-! ## The law's defs: talks -/
section
variable {P : Program} {w : World} {K : PySem.W.Frag} {mg : Str → Option Value} {base : Heap} {C : Addr} (E : Fs w K mg C)
include E
theorem ok__law_dual (d : Nat) : FnG P w K mg base "_law_dual" (d + 1) (SpD C (fun t : { t : Talk // t.dep ≤ d ∧ t.size ≤ 100 } => [.d t.1.D]) (fun t r => r = .d t.1.dual.D)) := by
  obtain ⟨f, fd, F, hm⟩ := E.d__law_dual
  refine (st__law_dual F (fun _ => rfl) fun c I t => ?_).g hm F.kp
  have ok := I.ok
  have hN := I.N
  have hG := I.G
  have hL := I.Lo
  have bi := I.bi E.bi
  obtain ⟨t, ht, hz⟩ := t
  cases t with
  | fin =>
    show DSs c [some (.r (.d Talk.fin.D)), none, none] (_ :: _) _
    wtm_at "w"
    all_goals rfl
  | ref b n =>
    cases b with
    | false =>
      show DSs c [some (.r (.d (.tuple [.str "name", .str n]))), none, none] (_ :: _) _
      wtm_at "w"
      rfl
    | true =>
      show DSs c [some (.r (.d (.tuple [.str "dual", .str n]))), none, none] (_ :: _) _
      wtm_at "w"
      rfl
  | act s rs =>
    cases d with
    | zero => simp [Talk.dep] at ht
    | succ d =>
      have hzl : rs.toL.length ≤ 1000000 := by
        have := Rows.toL_len rs
        simp only [Talk.size] at hz
        omega
      cases s <;> (
        show DSs c [some (.r (.d (.tuple [.str _, .tuple rs.D]))), none, none] (_ :: _) _
        wtm_at "w"
        refine de_of_df (lc_D .t I ["_law_row_here"] ["_law_row_here"] ["_law_dual"] [("_law_row_here", 2)] (by decide +kernel) (by wtm_at "k.mk") fun cb Ib => ?_)
        wtm_at "w"
        have okb := Ib.ok
        have hNb := Ib.N
        have hGb := Ib.G
        have hLb := Ib.Lo
        have f3 := Ib.fn (sp := fun C => SpD C _ _) (ok__law_dual d) (by omega)
        rw [Rows.D_toL]
        refine lc_map Row.D Row.dD hzl (fun r hr => ?_) ?_
        · obtain ⟨l, k, t⟩ := r
          have hm : t.dep ≤ rs.dep ∧ t.size + 1 ≤ rs.size := Rows.mem_le hr
          simp only [Talk.dep, Talk.size] at ht hz
          show DG cb _ _ (.tuple [.str l, k.D, t.D]) _
          wtm_at "w"
          refine ⟨⟨t, by have := hm.1; omega, by have := hm.2; omega⟩, rfl, fun w hw => ?_⟩
          subst hw
          wtm_at "w"
          rfl
        · refine ⟨_, .inl rfl, ?_⟩
          wtm_at "w"
          show W.d (.tuple [.str _, .tuple (rs.toL.map Row.dD)]) = W.d (.tuple [.str _, .tuple rs.dual.D])
          rw [Rows.dual_D]
          rfl)
theorem ok__law_head (r : Nat) : FnG P w K mg base "_law_head" (r + 5) (SpD C (fun z : { z : Tab × Talk // TA z.1 z.2 ∧ z.2.rk z.1 ≤ r } => [.tb z.1.1.D, .d z.1.2.D]) (fun z r => r = .d (headM z.1.1 z.1.2).D)) := by
  obtain ⟨f, fd, F, hm⟩ := E.d__law_head
  refine (st__law_head F (fun _ => rfl) fun c I t => ?_).g hm F.kp
  have ok := I.ok
  have hN := I.N
  have hG := I.G
  have hL := I.Lo
  have f2 := I.fn (sp := fun C => SpD C _ _) (ok__law_dual E 3) (by omega)
  obtain ⟨⟨tab, t⟩, hA, hr⟩ := t
  simp only at hA hr
  cases t with
  | fin =>
    show DSs c [some (.r (.tb tab.D)), some (.r (.d Talk.fin.D))] (_ :: _) _
    wtm_at "w"
    rfl
  | act s rs =>
    cases s <;> (
      show DSs c [some (.r (.tb tab.D)), some (.r (.d (.tuple [.str _, .tuple rs.D])))] (_ :: _) _
      wtm_at "w"
      rfl)
  | ref b n =>
    obtain ⟨t2, e2, hT2, hrk⟩ := hA.get
    have hl : ixW (.tb tab.D) (.d (.str n)) = some (.d t2.D) := ix_tb (by rw [Tab.lkp, e2]; rfl)
    have hh := headM_ref hA.ok (b := b) e2
    cases r with
    | zero => simp only [Talk.rk] at hr; omega
    | succ r =>
      simp only [Talk.rk] at hr
      have f3 := I.fn (sp := fun C => SpD C _ _) (ok__law_head r) (by omega)
      cases b with
      | false =>
        show DSs c [some (.r (.tb tab.D)), some (.r (.d (.tuple [.str "name", .str n])))] (_ :: _) _
        wtm_at "w"
        refine ⟨⟨(tab, t2), hT2, by simp only; omega⟩, rfl, fun w hw => ?_⟩
        subst hw
        show W.d (headM tab t2).D = W.d (headM tab (.ref false n)).D
        rw [hh]; rfl
      | true =>
        show DSs c [some (.r (.tb tab.D)), some (.r (.d (.tuple [.str "dual", .str n])))] (_ :: _) _
        wtm_at "w"
        refine ⟨⟨(tab, t2), hT2, by simp only; omega⟩, rfl, fun w hw => ?_⟩
        subst hw
        wtm_at "w"
        refine ⟨⟨headM tab t2, by have := (headM_small hT2).1; omega, by have := (headM_small hT2).2; omega⟩, rfl, fun w hw => ?_⟩
        subst hw
        show W.d (headM tab t2).dual.D = W.d (headM tab (.ref true n)).D
        rw [hh]; rfl
theorem ok__law_row : FnG P w K mg base "_law_row" 1 (SpD C (fun z : { z : Talk × Str // z.1.isRef = false } => [.d z.1.1.D, .d (.str z.1.2)]) (fun z r => r = .d (rowD z.1.2 (z.1.1.rows.find z.1.2)))) := by
  obtain ⟨f, fd, F, hm⟩ := E.d__law_row
  refine (st__law_row F (fun _ => rfl) fun c I t => ?_).g hm F.kp
  have ok := I.ok
  have hN := I.N
  have hL := I.Lo
  obtain ⟨⟨t, x⟩, ht⟩ := t
  cases t with
  | ref b n => cases ht
  | fin =>
    show DSs c [some (.r (.d Talk.fin.D)), some (.r (.d (.str x))), none] (_ :: _) _
    wtm_at "w"
    rfl
  | act s rs =>
    cases s <;> (
      show DSs c [some (.r (.d (Talk.act _ rs).D)), some (.r (.d (.str x))), none] (_ :: _) _
      wtm_at "w"
      refine ds_forT ok ?_
      wtm_at "w"
      refine ⟨fun rest env => ∃ (r : Rows) (o : Option Slot), rest = r.D ∧ env = [some (.r (.d (Talk.act _ rs).D)), some (.r (.d (.str x))), o] ∧ rs.find x = r.find x, ⟨rs, none, rfl, rfl, rfl⟩, ?_, ?_⟩
      · rintro d rest env _ ⟨r, o, e1, rfl, e3⟩
        cases r with
        | nil => cases e1
        | cons l k t r =>
          cases e1
          wtm_at "w"
          · rename_i h
            rw [eqv_str] at h
            have h := of_decide_eq_true h
            subst h
            show W.d _ = W.d (rowD l (rs.find l))
            rw [e3]
            simp [Rows.find, rowD]
          · rename_i h
            rw [eqv_str] at h
            have h := of_decide_eq_false h
            exact ⟨r, _, rfl, rfl, by rw [e3]; simp [Rows.find, h]⟩
      · rintro env ⟨r, o, e1, rfl, e3⟩
        cases r with
        | cons l k t r => cases e1
        | nil =>
          wtm_at "w"
          show W.d _ = W.d (rowD x (rs.find x))
          rw [e3]
          rfl)
end
/-! ## The law's defs: what is asked -/
theorem TA.rk {tab : Tab} {t : Talk} (h : TA tab t) : t.rk tab ≤ 3 := by
  cases t with
  | ref b n => exact Nat.le_trans (Tab.rank_le n tab) h.ok.len
  | _ => exact Nat.zero_le _
structure PtA where
  tab : Tab
  t0 : Talk
  st : List Ev
  t : Talk
  hT : TU tab t0
  hf : foldO (pathS tab) t0 st = some t
theorem foldO_cons {α β : Type} {f : α → β → Option α} {a x : α} {b : β} {l : List β} (h : foldO f a (b :: l) = some x) : ∃ y, f a b = some y ∧ foldO f y l = some x := by
  replace h : (match f a b with | some a' => foldO f a' l | none => none) = some x := h
  cases e : f a b with
  | none => rw [e] at h; cases h
  | some y => rw [e] at h; exact ⟨y, rfl, h⟩
theorem pathS_some {tab : Tab} {t u : Talk} {e : Ev} (h : pathS tab t e = some u) : ∃ s i j x d rs k, e = (if s then .say i j x d else .hear i j x d) ∧ headM tab t = .act s rs ∧ rs.find x = some (k, u) := by
  cases e with
  | say i j x d =>
    simp only [pathS] at h
    split at h
    · rename_i rs hd
      cases e : rs.find x with
      | none => rw [e] at h; cases h
      | some q =>
        rw [e] at h
        cases h
        exact ⟨true, i, j, x, d, rs, q.1, rfl, hd, e⟩
    · cases h
  | hear i j x d =>
    simp only [pathS] at h
    split at h
    · rename_i rs hd
      cases e : rs.find x with
      | none => rw [e] at h; cases h
      | some q =>
        rw [e] at h
        cases h
        exact ⟨false, i, j, x, d, rs, q.1, rfl, hd, e⟩
    · cases h
  | _ => cases h
section
variable {P : Program} {w : World} {K : PySem.W.Frag} {mg : Str → Option Value} {base : Heap} {C : Addr} (E : Fs w K mg C)
include E
theorem ok__law_path : FnG P w K mg base "_law_path" 9 (SpD C (fun z : PtA => [.tb z.tab.D, .d z.t0.D, .d (.list (z.st.map Ev.D))]) (fun z r => r = .d (.bool true))) := by
  obtain ⟨f, fd, F, hm⟩ := E.d__law_path
  refine (st__law_path F (fun _ => rfl) fun c I z => ?_).g hm F.kp
  have ok := I.ok
  have hN := I.N
  have hG := I.G
  have hL := I.Lo
  have f1 := I.fn (sp := fun C => SpD C _ _) (ok__law_head E 3) (by omega)
  have f2 := I.fn (sp := fun C => SpD C _ _) (ok__law_row E) (by omega)
  obtain ⟨tab, t0, st, t, hT, hf⟩ := z
  show DSs c [some (.r (.tb tab.D)), some (.r (.d t0.D)), some (.r (.d (.list (st.map Ev.D)))), none, none, none] (_ :: _) _
  wtm_at "w"
  refine ds_forL ok ?_
  wtm_at "w"
  refine ⟨fun rest env => ∃ (r : List Ev) (u : Talk) (q3 q4 q5 : Option Slot), rest = r.map Ev.D ∧ env = [some (.r (.tb tab.D)), some (.r (.d u.D)), some (.r (.d (.list (st.map Ev.D)))), q3, q4, q5] ∧ TU tab u ∧ foldO (pathS tab) u r = some t, ⟨st, t0, _, _, _, rfl, rfl, hT, hf⟩, ?_, ?_⟩
  · rintro d rest env _ ⟨r, u, q3, q4, q5, er, rfl, hU, hr⟩
    cases r with
    | nil => cases er
    | cons e r =>
      cases er
      obtain ⟨u', h1, h2⟩ := foldO_cons hr
      obtain ⟨s, i, j, x, d, rs, k, rfl, h3, h4⟩ := pathS_some h1
      have hU' : TU tab u' := by
        have := hU.head
        rw [h3] at this
        exact (this.next h4).1
      cases s <;> (
        show DG c _ _ (.tuple [.str _, .int i, .int j, .str x, d]) _
        wtm_at "w"
        refine ⟨⟨(tab, u), hU.toTA, hU.toTA.rk⟩, rfl, fun w hw => ?_⟩
        obtain rfl : w = .d (Talk.act _ rs).D := hw.trans (congrArg (fun t : Talk => W.d t.D) h3)
        wtm_at "w"
        refine ⟨⟨(.act _ rs, x), rfl⟩, rfl, fun w hw => ?_⟩
        obtain rfl : w = .d (.tuple [.str x, k.D, u'.D]) := hw.trans (by show W.d (rowD x (rs.find x)) = _; rw [h4]; rfl)
        wtm_at "w"
        exact ⟨r, u', _, _, _, rfl, rfl, hU', h2⟩)
  · rintro env ⟨r, u, q3, q4, q5, er, rfl, hU, hr⟩
    wtm_at "w"
    rfl
end
structure SdA where
  tab : Tab
  es : List Ev
  x : Bool
  nm : Str
  j : Int
  fin : Sr
  t : Talk
  tok : tab.Ok
  hnm : (tab.get nm).isSome = true
  hj : j = 0 ∨ j = 1
  hf : foldO (sideS j) Sr.zero es = some fin
  hp : foldO (pathS tab) (ktM j x nm) fin.st = some t
  hg : ∀ e ∈ es, e.good
  hc : ∀ e ∈ es, e.conv ≠ none
  hl : es.length ≤ 100
theorem chk_eq {s s' : Sr} (h : s.chk = some s') : s' = s ∧ eqL s.hd (s.sd.take s.hd.length) = true := by
  unfold Sr.chk at h
  split at h
  · rename_i h2
    cases h
    exact ⟨rfl, h2⟩
  · cases h
theorem can_shapedD {m : Msg} (h : canM m) : SeqAt.shaped m.D = true := by
  have h1 := can_shaped (a := [m]) fun q hq => by rw [List.mem_singleton.mp hq]; exact h
  unfold SeqAt.shaped at h1 ⊢
  simp only [Bool.and_eq_true, decide_eq_true_eq, List.map_cons, List.map_nil, PyData.canLay0, PyData.canLayAll0, PyData.depth, PyData.depthAll] at h1 ⊢
  exact ⟨h1.1.1, by have := h1.2; omega⟩
theorem cmpL {h s : List Msg} (gh : ∀ m ∈ h, canM m) (gs : ∀ m ∈ s, canM m) : eqOk (.list (h.map Msg.D)) (.list (s.map Msg.D)) = true := by
  simp only [eqOk, can_shaped gh, can_shaped gs, Bool.and_self, Bool.or_true]
/-- heard against what was said so far -/
theorem cmpC {h s : List Msg} {H : List PD} (eH : H = h.map Msg.D) (gh : ∀ m ∈ h, canM m) (gs : ∀ m ∈ s, canM m) (hk : eqL h (s.take h.length) = true) :
    eqOk (.list H) (.list (cutD (s.map Msg.D) none (some (H.length : Int)))) = true ∧ (!PyData.eqv (.list H) (.list (cutD (s.map Msg.D) none (some (H.length : Int))))) = false := by
  subst eH
  rw [cut_to, List.length_map, ← List.map_take]
  refine ⟨cmpL gh fun m hm => gs m (List.mem_of_mem_take hm), ?_⟩
  rw [show PyData.eqv (.list (h.map Msg.D)) (.list ((s.take h.length).map Msg.D)) = true from hk]
  rfl
def Sr.ok (s : Sr) (n : Nat) : Prop := (∀ m ∈ s.sd, canM m) ∧ (∀ m ∈ s.hd, canM m) ∧ s.st.length ≤ n ∧ s.sd.length ≤ n ∧ s.hd.length ≤ n
theorem Sr.ok.keep {s : Sr} {n : Nat} (h : s.ok n) : s.ok (n + 1) := ⟨h.1, h.2.1, Nat.le_succ_of_le h.2.2.1, Nat.le_succ_of_le h.2.2.2.1, Nat.le_succ_of_le h.2.2.2.2⟩
theorem Sr.ok.addS {s : Sr} {n : Nat} {e : Ev} (h : s.ok n) : ({ s with st := s.st ++ [e] } : Sr).ok (n + 1) := ⟨h.1, h.2.1, by show (s.st ++ [e]).length ≤ _; rw [List.length_append]; exact Nat.succ_le_succ h.2.2.1, Nat.le_succ_of_le h.2.2.2.1, Nat.le_succ_of_le h.2.2.2.2⟩
theorem Sr.ok.addD {s : Sr} {n : Nat} {m : Msg} (h : s.ok n) (g : canM m) : ({ s with sd := s.sd ++ [m] } : Sr).ok (n + 1) := ⟨fun q hq => (List.mem_append.mp hq).elim (h.1 q) fun z => by rw [List.mem_singleton.mp z]; exact g, h.2.1, Nat.le_succ_of_le h.2.2.1, by show (s.sd ++ [m]).length ≤ _; rw [List.length_append]; exact Nat.succ_le_succ h.2.2.2.1, Nat.le_succ_of_le h.2.2.2.2⟩
theorem Sr.ok.addH {s : Sr} {n : Nat} {e : Ev} {m : Msg} (h : s.ok n) (g : canM m) : ({ s with st := s.st ++ [e], hd := s.hd ++ [m] } : Sr).ok (n + 1) := ⟨h.1, fun q hq => (List.mem_append.mp hq).elim (h.2.1 q) fun z => by rw [List.mem_singleton.mp z]; exact g, by show (s.st ++ [e]).length ≤ _; rw [List.length_append]; exact Nat.succ_le_succ h.2.2.1, Nat.le_succ_of_le h.2.2.2.1, by show (s.hd ++ [m]).length ≤ _; rw [List.length_append]; exact Nat.succ_le_succ h.2.2.2.2⟩
section
variable {P : Program} {w : World} {K : PySem.W.Frag} {mg : Str → Option Value} {base : Heap} {C : Addr} (E : Fs w K mg C)
include E
theorem ok__law_side_right : FnG P w K mg base "_law_side_right" 10 (SpD C (fun z : SdA => [.tb z.tab.D, .d (.list (z.es.map Ev.D)), .d (Talk.ref z.x z.nm).D, .d (.int z.j)]) (fun z r => r = .d (.bool true))) := by
  obtain ⟨f, fd, F, hm⟩ := E.d__law_side_right
  refine (st__law_side_right F (fun _ => rfl) fun c I z => ?_).g hm F.kp
  have ok := I.ok
  have hN := I.N
  have hG := I.G
  have hL := I.Lo
  have bi := I.bi E.bi
  have f1 := I.fn (sp := fun C => SpD C _ _) (ok__law_dual E 1) (by omega)
  have f2 := I.fn (sp := fun C => SpD C _ _) (ok__law_path E) (by omega)
  obtain ⟨tab, es, x, nm, j, fin, t, tok, hnm, hj, hf, hp, hg, hc, hl⟩ := z
  show DSs c [some (.r (.tb tab.D)), some (.r (.d (.list (es.map Ev.D)))), some (.r (.d (Talk.ref x nm).D)), some (.r (.d (.int j))), none, none, none, none, none, none, none] (_ :: _) _
  wtm_at "w"
  refine ds_forL ok ?_
  wtm_at "w"
  refine ⟨fun rest env => ∃ (r : List Ev) (s : Sr) (q9 : Option Slot) (n : Nat), rest = r.map Ev.D ∧ env = [some (.r (.tb tab.D)), some (.r (.d (.list (es.map Ev.D)))), some (.r (.d (Talk.ref x nm).D)), some (.r (.d (.int j))), some (.l (s.st.map Ev.D)), some (.l (s.sd.map Msg.D)), some (.l (s.hd.map Msg.D)), some (.r (.d (.bool s.lf))), some (.r (.d (.bool s.fl))), q9, none] ∧ (q9 = none ∨ ∃ w, q9 = some (.r w)) ∧
    foldO (sideS j) s r = some fin ∧ s.ok n ∧ n + r.length ≤ 100 ∧ (∀ e ∈ r, e.good) ∧ (∀ e ∈ r, e.conv ≠ none), ⟨es, Sr.zero, none, 0, rfl, rfl, .inl rfl, hf, ⟨fun m hm => (by cases hm), fun m hm => (by cases hm), by simp [Sr.zero], by simp [Sr.zero], by simp [Sr.zero]⟩, by omega, hg, hc⟩, ?_, ?_⟩
  · rintro d rest env _ ⟨r, s, q9, n, er, rfl, _, hr, ⟨k1, k2, k3, k4, k5⟩, hn, hg, hc⟩
    cases r with
    | nil => cases er
    | cons e r =>
      cases er
      obtain ⟨s', h1, h2⟩ := foldO_cons hr
      have hg' : ∀ e ∈ r, e.good := fun e' he' => hg e' (List.mem_cons_of_mem _ he')
      have hc' : ∀ e ∈ r, e.conv ≠ none := fun e' he' => hc e' (List.mem_cons_of_mem _ he')
      have gd := hg e List.mem_cons_self
      simp only [List.length_cons] at hn
      have hk : s.ok n := ⟨k1, k2, k3, k4, k5⟩
      have hn' : n + 1 + r.length ≤ 100 := by omega
      have l1 : (s.st.map Ev.D).length < 1000000 := by rw [List.length_map]; omega
      have l2 : (s.sd.map Msg.D).length < 1000000 := by rw [List.length_map]; omega
      have l3 : (s.hd.map Msg.D).length < 1000000 := by rw [List.length_map]; omega
      cases e with
      | opn a cc m x' nm' =>
        cases h1
        show DG c _ _ (.tuple [.str "open", .int a, .int cc, .int m, .tuple [.str (rtag x'), .str nm']]) _
        wtm_at "m"
        exact ⟨r, s, _, n + 1, rfl, rfl, .inr ⟨_, rfl⟩, h2, hk.keep, hn', hg', hc'⟩
      | say i j' x' d =>
        by_cases hjj : j' = j
        · have b1 : (!(PyData.int j').eqv (PyData.int j)) = false := by rw [eqv_int, decide_eq_true hjj]; rfl
          simp only [sideS, if_pos hjj] at h1
          split at h1
          · cases h1
          · rename_i hlf
            have hlf : s.lf = false := by cases h : s.lf <;> first | rfl | exact absurd h hlf
            obtain ⟨rfl, hck⟩ := chk_eq h1
            obtain ⟨o1, b2⟩ := cmpC (h := s.hd) (s := s.sd) rfl k2 k1 hck
            rw [hlf]
            show DG c _ _ (.tuple [.str "say", .int i, .int j', .str x', d]) _
            wtm_at "m"
            exact ⟨r, _, _, n + 1, rfl, by rw [hlf, List.map_append]; rfl, .inr ⟨_, rfl⟩, h2, hk.addS, hn', hg', hc'⟩
        · have b1 : (!(PyData.int j').eqv (PyData.int j)) = true := by rw [eqv_int, decide_eq_false hjj]; rfl
          simp only [sideS, if_neg hjj] at h1
          cases h1
          show DG c _ _ (.tuple [.str "say", .int i, .int j', .str x', d]) _
          cases hfl : s.fl <;> (
            wtm_at "m"
            exact ⟨r, _, _, n + 1, rfl, by rw [hfl, List.map_append]; rfl, .inr ⟨_, rfl⟩, h2, hk.addD gd, hn', hg', hc'⟩)
      | hear i j' x' d =>
        by_cases hjj : j' = j
        · have b1 : (!(PyData.int j').eqv (PyData.int j)) = false := by rw [eqv_int, decide_eq_true hjj]; rfl
          simp only [sideS, if_pos hjj] at h1
          split at h1
          · cases h1
          · rename_i hlf
            have hlf : s.lf = false := by cases h : s.lf <;> first | rfl | exact absurd h hlf
            obtain ⟨rfl, hck⟩ := chk_eq h1
            have k2' : ∀ m ∈ s.hd ++ [(x', d)], canM m := fun m hm => (List.mem_append.mp hm).elim (k2 m) fun z => by rw [List.mem_singleton.mp z]; exact gd
            obtain ⟨o1, b2⟩ := cmpC (h := s.hd ++ [(x', d)]) (s := s.sd) (H := s.hd.map Msg.D ++ [.tuple [.str x', d]]) (by rw [List.map_append]; rfl) k2' k1 hck
            rw [hlf]
            show DG c _ _ (.tuple [.str "hear", .int i, .int j', .str x', d]) _
            wtm_at "m"
            exact ⟨r, _, _, n + 1, rfl, by rw [hlf, List.map_append, List.map_append]; rfl, .inr ⟨_, rfl⟩, h2, hk.addH gd, hn', hg', hc'⟩
        · have b1 : (!(PyData.int j').eqv (PyData.int j)) = true := by rw [eqv_int, decide_eq_false hjj]; rfl
          simp only [sideS, if_neg hjj] at h1
          cases h1
          show DG c _ _ (.tuple [.str "hear", .int i, .int j', .str x', d]) _
          cases hfl : s.fl <;> (
            wtm_at "m"
            exact ⟨r, s, _, n + 1, rfl, (by rw [hfl] <;> rfl), .inr ⟨_, rfl⟩, h2, hk.keep, hn', hg', hc'⟩)
      | told i j' =>
        by_cases hjj : j' = j
        · have b1 : (!(PyData.int j').eqv (PyData.int j)) = false := by rw [eqv_int, decide_eq_true hjj]; rfl
          simp only [sideS, if_pos hjj] at h1
          split at h1
          · cases h1
          · rename_i hlf
            have hlf : s.lf = false := by cases h : s.lf <;> first | rfl | exact absurd h hlf
            split at h1
            · rename_i hfe
              rw [Bool.and_eq_true] at hfe
              obtain ⟨hfl, he⟩ := hfe
              obtain ⟨rfl, hck⟩ := chk_eq h1
              obtain ⟨o1, b2⟩ := cmpC (h := s.hd) (s := s.sd) rfl k2 k1 hck
              have o2 := cmpL k2 k1
              have b3 : (!PyData.eqv (.list (s.hd.map Msg.D)) (.list (s.sd.map Msg.D))) = false := by rw [show PyData.eqv (.list (s.hd.map Msg.D)) (.list (s.sd.map Msg.D)) = true from he]; rfl
              rw [hlf, hfl]
              show DG c _ _ (.tuple [.str "told", .int i, .int j']) _
              wtm_at "m"
              exact ⟨r, _, _, n + 1, rfl, (by rw [hfl] <;> rfl), .inr ⟨_, rfl⟩, h2, hk.keep, hn', hg', hc'⟩
            · cases h1
        · have b1 : (!(PyData.int j').eqv (PyData.int j)) = true := by rw [eqv_int, decide_eq_false hjj]; rfl
          simp only [sideS, if_neg hjj] at h1
          cases h1
          show DG c _ _ (.tuple [.str "told", .int i, .int j']) _
          cases hfl : s.fl <;> (
            wtm_at "m"
            exact ⟨r, s, _, n + 1, rfl, (by rw [hfl] <;> rfl), .inr ⟨_, rfl⟩, h2, hk.keep, hn', hg', hc'⟩)
      | close i j' =>
        by_cases hjj : j' = j
        · have b1 : (!(PyData.int j').eqv (PyData.int j)) = false := by rw [eqv_int, decide_eq_true hjj]; rfl
          simp only [sideS, if_pos hjj] at h1
          split at h1
          · cases h1
          · rename_i hlf
            have hlf : s.lf = false := by cases h : s.lf <;> first | rfl | exact absurd h hlf
            obtain ⟨rfl, hck⟩ := chk_eq h1
            obtain ⟨o1, b2⟩ := cmpC (h := s.hd) (s := s.sd) rfl k2 k1 hck
            rw [hlf]
            show DG c _ _ (.tuple [.str "close", .int i, .int j']) _
            wtm_at "m"
            exact ⟨r, _, _, n + 1, rfl, rfl, .inr ⟨_, rfl⟩, h2, hk.keep, hn', hg', hc'⟩
        · have b1 : (!(PyData.int j').eqv (PyData.int j)) = true := by rw [eqv_int, decide_eq_false hjj]; rfl
          simp only [sideS, if_neg hjj] at h1
          cases h1
          show DG c _ _ (.tuple [.str "close", .int i, .int j']) _
          cases hfl : s.fl <;> (
            wtm_at "m"
            exact ⟨r, s, _, n + 1, rfl, (by rw [hfl] <;> rfl), .inr ⟨_, rfl⟩, h2, hk.keep, hn', hg', hc'⟩)
      | drop i j' =>
        by_cases hjj : j' = j
        · have b1 : (!(PyData.int j').eqv (PyData.int j)) = false := by rw [eqv_int, decide_eq_true hjj]; rfl
          simp only [sideS, if_pos hjj] at h1
          split at h1
          · cases h1
          · rename_i hlf
            have hlf : s.lf = false := by cases h : s.lf <;> first | rfl | exact absurd h hlf
            obtain ⟨rfl, hck⟩ := chk_eq h1
            obtain ⟨o1, b2⟩ := cmpC (h := s.hd) (s := s.sd) rfl k2 k1 hck
            rw [hlf]
            show DG c _ _ (.tuple [.str "drop", .int i, .int j']) _
            wtm_at "m"
            exact ⟨r, _, _, n + 1, rfl, rfl, .inr ⟨_, rfl⟩, h2, hk.keep, hn', hg', hc'⟩
        · have b1 : (!(PyData.int j').eqv (PyData.int j)) = true := by rw [eqv_int, decide_eq_false hjj]; rfl
          simp only [sideS, if_neg hjj] at h1
          cases h1
          show DG c _ _ (.tuple [.str "drop", .int i, .int j']) _
          cases hfl : s.fl <;> (
            wtm_at "m"
            exact ⟨r, _, _, n + 1, rfl, rfl, .inr ⟨_, rfl⟩, h2, hk.keep, hn', hg', hc'⟩)
      | become a y => exact absurd rfl (hc _ List.mem_cons_self)
      | done a => exact absurd rfl (hc _ List.mem_cons_self)
      | fall a => exact absurd rfl (hc _ List.mem_cons_self)
  · rintro env ⟨r, s, q9, n, er, rfl, hq, hr, ⟨k1, k2, k3, k4, k5⟩, hn, hg, hc⟩
    cases r with
    | cons e r => cases er
    | nil =>
      cases hr
      have hT : ∀ b, TU tab (.ref b nm) := fun b => TU.ref' tok hnm
      rcases hj with rfl | rfl
      · rcases hq with rfl | ⟨w, rfl⟩ <;> (
          wtm_at "m"
          refine ⟨⟨.ref x nm, by simp [Talk.dep], by simp [Talk.size]⟩, rfl, fun w hw => ?_⟩
          subst hw
          wtm_at "m"
          refine ⟨⟨tab, .ref (!x) nm, _, t, hT _, hp⟩, rfl, fun w hw => ?_⟩
          subst hw
          exact ⟨rfl, rfl⟩)
      · rcases hq with rfl | ⟨w, rfl⟩ <;> (
          wtm_at "m"
          refine ⟨⟨tab, .ref x nm, _, t, hT _, hp⟩, rfl, fun w hw => ?_⟩
          subst hw
          exact ⟨rfl, rfl⟩)
end
/-! ### _law_about, _law_all_right -/
/-- a trace that judge accepted, as far as it matters here -/
structure ArA where
  tab : Tab
  es : List Ev
  tok : tab.Ok
  hl : es.length ≤ 100
  hg : ∀ e ∈ es, e.good
  sd : ∀ c : Nat, c < (es.filter Ev.isOpn).length → ∃ a cc x nm tl, (es.filter Ev.isOpn)[c]? = some (.opn a cc (c : Int) x nm) ∧ es.filter (about c) = .opn a cc (c : Int) x nm :: tl ∧ (tab.get nm).isSome = true ∧
    ∀ j : Int, j = 0 ∨ j = 1 → ∃ s t, foldO (sideS j) Sr.zero (es.filter (about c)) = some s ∧ foldO (pathS tab) (ktM j x nm) s.st = some t
section
variable {P : Program} {w : World} {K : PySem.W.Frag} {mg : Str → Option Value} {base : Heap} {C : Addr} (E : Fs w K mg C)
include E
theorem ok__law_about : FnG P w K mg base "_law_about" 1 (SpD C (fun z : Ev × Nat => [.d z.1.D, .d (.int z.2)]) (fun z r => r = .d (.bool (about z.2 z.1)))) := by
  obtain ⟨f, fd, F, hm⟩ := E.d__law_about
  refine (st__law_about F (fun _ => rfl) fun c I z => ?_).g hm F.kp
  have ok := I.ok
  have hN := I.N
  have hG := I.G
  have hL := I.Lo
  obtain ⟨e, n⟩ := z
  have hab : ∀ i : Int, e.conv = some i → PyData.eqv (.int i) (.int (n : Int)) = about n e := fun i h => by
    rw [eqv_int]
    unfold about
    rw [h]
    by_cases hi : i = n <;> simp [hi]
  have hno : e.conv = none → false = about n e := fun h => by unfold about; rw [h]; simp
  cases e with
  | opn a cc m x nm =>
    show DSs c [some (.r (.d (Ev.opn a cc m x nm).D)), some (.r (.d (.int n)))] (_ :: _) _
    wtm_at "w"
    exact congrArg (fun b => W.d (.bool b)) (hab _ rfl)
  | say i j x d =>
    show DSs c [some (.r (.d (Ev.say i j x d).D)), some (.r (.d (.int n)))] (_ :: _) _
    wtm_at "w"
    exact congrArg (fun b => W.d (.bool b)) (hab _ rfl)
  | hear i j x d =>
    show DSs c [some (.r (.d (Ev.hear i j x d).D)), some (.r (.d (.int n)))] (_ :: _) _
    wtm_at "w"
    exact congrArg (fun b => W.d (.bool b)) (hab _ rfl)
  | told i j =>
    show DSs c [some (.r (.d (Ev.told i j).D)), some (.r (.d (.int n)))] (_ :: _) _
    wtm_at "w"
    exact congrArg (fun b => W.d (.bool b)) (hab _ rfl)
  | close i j =>
    show DSs c [some (.r (.d (Ev.close i j).D)), some (.r (.d (.int n)))] (_ :: _) _
    wtm_at "w"
    exact congrArg (fun b => W.d (.bool b)) (hab _ rfl)
  | drop i j =>
    show DSs c [some (.r (.d (Ev.drop i j).D)), some (.r (.d (.int n)))] (_ :: _) _
    wtm_at "w"
    exact congrArg (fun b => W.d (.bool b)) (hab _ rfl)
  | become a x =>
    show DSs c [some (.r (.d (Ev.become a x).D)), some (.r (.d (.int n)))] (_ :: _) _
    wtm_at "w"
    exact congrArg (fun b => W.d (.bool b)) (hno rfl)
  | done a =>
    show DSs c [some (.r (.d (Ev.done a).D)), some (.r (.d (.int n)))] (_ :: _) _
    wtm_at "w"
    exact congrArg (fun b => W.d (.bool b)) (hno rfl)
  | fall a =>
    show DSs c [some (.r (.d (Ev.fall a).D)), some (.r (.d (.int n)))] (_ :: _) _
    wtm_at "w"
    exact congrArg (fun b => W.d (.bool b)) (hno rfl)
end
/-- a comprehension with a test -/
theorem lc_filter {c : Ctx} {env : En} {tg elt e : Expr} {α : Type} (g : α → PD) (p : α → Bool) {xs : List α} {Q : List PD → Prop} (hz : xs.length ≤ 1000000) (h : ∀ a ∈ xs, DG c env tg (g a) fun env2 => DT c env2 e fun k => k = p a ∧ (k = true → DE c env2 elt fun w => w = .d (g a))) (q : Q ((xs.filter p).map g)) : LcJ c env tg [e] elt (xs.map g) Q := by
  refine ⟨fun rest acc => ∃ ys zs, xs = ys ++ zs ∧ rest = zs.map g ∧ acc = (ys.filter p).map g, ⟨[], xs, rfl, rfl, rfl⟩, fun d rest acc _ ⟨ys, zs, e1, e2, e3⟩ => ?_, fun acc ⟨ys, zs, e1, e2, e3⟩ => ?_⟩
  · cases zs with
    | nil => cases e2
    | cons z zs =>
      cases e2
      have hl : acc.length < 1000000 := by
        rw [e3, List.length_map]
        have h1 : (ys.filter p).length ≤ ys.length := List.length_filter_le p ys
        have := congrArg List.length e1
        simp at this
        omega
      intro X hX B Z H S fp σ v E r Q' q'
      refine h z (by rw [e1]; simp) X hX B Z H S fp σ v E r Q' fun env' σ' hP => q' env' σ' ?_
      show DT c env' e _
      intro X hX B Z H S fp σ E Q2 q2
      refine hP X hX B Z H S fp σ E Q2 fun b H' S' ⟨hb, hd⟩ => q2 b H' S' ⟨fun hk => ⟨hl, (hd hk).imp fun w hw => ⟨_, hw, ys ++ [z], zs, by rw [e1]; simp, rfl, ?_⟩⟩, fun hk => ⟨ys ++ [z], zs, by rw [e1]; simp, rfl, ?_⟩⟩
      · rw [e3, List.filter_append, List.map_append, List.filter_cons_of_pos (by rw [← hb]; exact hk)]
        rfl
      · rw [e3, List.filter_append, List.map_append, List.filter_cons_of_neg (by rw [← hb, hk]; decide)]
        simp
  · cases zs with
    | cons z zs => cases e2
    | nil =>
      rw [List.append_nil] at e1
      rw [e3, ← e1]
      exact q
theorem opn_shaped {tab : Tab} (tok : tab.Ok) {a cc c : Int} {x : Bool} {nm : Str} (h : (tab.get nm).isSome = true) : SeqAt.shaped (Ev.opn a cc c x nm).D = true := by
  obtain ⟨h1, h2⟩ := Kind.lay tok (k := .ref x nm) h
  have h3 : PyData.canLay0 (.str "open") = true := by decide +kernel
  refine shaped_of ?_ ?_
  · show PyData.canLay0 (.tuple [.str "open", .int a, .int cc, .int c, (Kind.ref x nm).D]) = true
    simp only [PyData.canLay0, PyData.canLayAll0] at h3 ⊢
    rw [h3, h1]
    rfl
  · show PyData.depth (.tuple [.str "open", .int a, .int cc, .int c, (Kind.ref x nm).D]) ≤ 64
    simp only [PyData.depth, PyData.depthAll]
    omega
theorem shaped_eqv {d : PD} (h : SeqAt.shaped d = true) : eqOk d d = true ∧ (!PyData.eqv d d) = false := by
  refine ⟨by simp only [eqOk, h, Bool.and_self, Bool.or_true], ?_⟩
  unfold SeqAt.shaped at h
  rw [Bool.and_eq_true] at h
  rw [SeqAt.eqv_refl d h.1]
  rfl
theorem about_conv {c : Int} {e : Ev} (h : about c e = true) : e.conv ≠ none := by
  rw [of_decide_eq_true h]; simp
section
variable {P : Program} {w : World} {K : PySem.W.Frag} {mg : Str → Option Value} {base : Heap} {C : Addr} (E : Fs w K mg C)
include E
theorem ok__law_all_right : FnG P w K mg base "_law_all_right" 11 (SpD C (fun z : ArA => [.tb z.tab.D, .d (.list (z.es.map Ev.D))]) (fun z r => r = .d (.bool true))) := by
  obtain ⟨f, fd, F, hm⟩ := E.d__law_all_right
  refine (st__law_all_right F (fun _ => rfl) fun c I z => ?_).g hm F.kp
  have ok := I.ok
  have hN := I.N
  have hG := I.G
  have hL := I.Lo
  have bi := I.bi E.bi
  have f1 := I.fn (sp := fun C => SpD C _ _) (ok__law_side_right E) (by omega)
  obtain ⟨tab, es, tok, hl, hg, hsd⟩ := z
  show DSs c [some (.r (.tb tab.D)), some (.r (.d (.list (es.map Ev.D)))), none, none, none, none, none] (_ :: _) _
  refine dss_cons (lc_S .l I (by wtm_at "k.mem") (by wtm_at "k.mem") ["_law_event_here"] ["_law_event_here"] [] [("_law_event_here", 6)] (by decide +kernel) (by decide +kernel) (by wtm_at "k.mk") fun cb Ib => ?_)
  wtm_at "k1"
  refine ⟨_, rfl, ?_⟩
  have okb := Ib.ok
  have hNb := Ib.N
  have hGb := Ib.G
  have hLb := Ib.Lo
  refine lc_filter Ev.D Ev.isOpn (by omega) (fun e he => ?_) ?_
  · have hnm : PyData.eqv (.str e.nm) (.str "open") = e.isOpn := by cases e <;> rfl
    have hix : ixW (.d e.D) (.d (.int 0)) = some (.d (.str e.nm)) := ix_t0
    wtm_at "w"
    refine ⟨hnm, fun _ => ?_⟩
    wtm_at "w"
    rfl
  · refine ⟨_, by wtm_at "k.up", ?_⟩
    have hlo : (es.filter Ev.isOpn).length ≤ 100 := Nat.le_trans (List.length_filter_le _ _) hl
    have hll : ((es.filter Ev.isOpn).map Ev.D).length = (es.filter Ev.isOpn).length := List.length_map _
    refine dss_cons (ds_forR ok bi hG (by wtm_at "k.mem") (de_lenL ok bi hN hG (by wtm_at "k.mem") (by wtm_at "k.ll") ?_))
    refine ⟨_, rfl, by omega, by omega, fun _ env => ∃ q3 q4 q5 : Option Slot, env = [some (.r (.tb tab.D)), some (.r (.d (.list (es.map Ev.D)))), some (.l ((es.filter Ev.isOpn).map Ev.D)), q3, q4, q5, none], ⟨_, _, _, rfl⟩, ?_, ?_⟩
    · rintro n env1 hn ⟨q3, q4, q5, rfl⟩
      rw [hll] at hn
      have hn : n < (es.filter Ev.isOpn).length := by omega
      obtain ⟨a, cc, x, nm, tl, h1, h2, h3, h4⟩ := hsd n hn
      have hixc : ixW (.d (.list ((es.filter Ev.isOpn).map Ev.D))) (.d (.int (n : Int))) = some (.d (Ev.opn a cc n x nm).D) := by
        rw [ix_ln (by rw [hll]; exact hn)]
        simp [nth, List.getD_eq_getElem?_getD, h1]
      have hix0 : ixW (.d (.list ((es.filter (about n)).map Ev.D))) (.d (.int 0)) = some (.d (Ev.opn a cc n x nm).D) := by rw [h2]; exact ix_l0
      obtain ⟨o1, b1⟩ := shaped_eqv (opn_shaped tok (a := a) (cc := cc) (c := n) (x := x) h3)
      refine dg_name ok hN hL (by wtm_at "k.mem") ⟨_, by wtm_at "k.up", ?_⟩
      refine dss_cons (lc_S .l I (by wtm_at "k.mem") (by wtm_at "k.mem") ["_law_event_here", "_law_conversation"] ["_law_event_here"] ["_law_about"] [("_law_event_here", 6)] (by decide +kernel) (by decide +kernel) (by wtm_at "k.mk") fun cb Ib => ?_)
      wtm_at "k1"
      refine ⟨_, rfl, ?_⟩
      have okb := Ib.ok
      have hNb := Ib.N
      have hGb := Ib.G
      have hLb := Ib.Lo
      have f2 := Ib.fn (sp := fun C => SpD C _ _) (ok__law_about E) (by omega)
      refine lc_filter Ev.D (about n) (by omega) (fun e he => ?_) ?_
      · wtm_at "w"
        refine ⟨(e, n), rfl, fun w hw => ?_⟩
        subst hw
        refine ⟨_, rfl, rfl, fun _ => ?_⟩
        wtm_at "w"
        rfl
      · refine ⟨_, by wtm_at "k.up", ?_⟩
        wtm_at "m"
        refine ds_forL ok ?_
        wtm_at "w"
        have hc : ∀ e ∈ es.filter (about n), e.conv ≠ none := fun e he => about_conv (List.mem_filter.mp he).2
        have hg' : ∀ e ∈ es.filter (about n), e.good := fun e he => hg e (List.mem_filter.mp he).1
        have hl' : (es.filter (about n)).length ≤ 100 := Nat.le_trans (List.length_filter_le _ _) hl
        refine ⟨fun rest env => ∃ (js : List Int) (q5 : Option Slot), rest = js.map PyData.int ∧ (∀ j ∈ js, j = 0 ∨ j = 1) ∧ env = [some (.r (.tb tab.D)), some (.r (.d (.list (es.map Ev.D)))), some (.l ((es.filter Ev.isOpn).map Ev.D)), some (.r (.d (.int (n : Int)))), some (.l ((es.filter (about n)).map Ev.D)), q5, none], ⟨[0, 1], q5, rfl, by simp, rfl⟩, ?_, ?_⟩
        · rintro d rest env _ ⟨js, q5, er, hjs, rfl⟩
          cases js with
          | nil => cases er
          | cons j js =>
            cases er
            obtain ⟨s, t, g1, g2⟩ := h4 j (hjs j List.mem_cons_self)
            wtm_at "m"
            refine ⟨⟨tab, es.filter (about n), x, nm, j, s, t, tok, h3, hjs j List.mem_cons_self, g1, g2, hg', hc, hl'⟩, rfl, fun w hw => ?_⟩
            subst hw
            wtm_at "m"
            exact ⟨js, _, rfl, fun j' hj' => hjs j' (List.mem_cons_of_mem _ hj'), rfl⟩
        · rintro env ⟨js, q5, er, hjs, rfl⟩
          exact ⟨_, _, _, rfl⟩
    · rintro env1 ⟨q3, q4, q5, rfl⟩
      wtm_at "w"
      rfl
end
/-! ## The law's subtalks -/
structure HH where
  tab : Tab
  a : Talk
  b : Talk
  ha : TU tab a
  hb : TU tab b
  na : a.isRef = false
  nb : b.isRef = false
def Rows.labs : Rows → List Str
  | .nil => []
  | .cons l _ _ rs => l :: rs.labs
def askM : Talk → Talk → List Str
  | .act true _, .act true r2 => r2.labs
  | .act false r1, .act false _ => r1.labs
  | _, _ => []
def Row.lD (r : Row) : PD := .str r.1
theorem labs_toL : ∀ rs : Rows, rs.labs.map PyData.str = rs.toL.map Row.lD
  | .nil => rfl
  | .cons l k t rs => by rw [Rows.labs, Rows.toL, List.map_cons, List.map_cons, labs_toL rs]; rfl
theorem labs_len : ∀ rs : Rows, rs.labs.length ≤ rs.size
  | .nil => Nat.le_refl 0
  | .cons l k t rs => by
    have := labs_len rs
    simp only [Rows.labs, Rows.size, List.length_cons]
    omega
structure KdA where
  a : Talk
  b : Talk
  x : Str
  na : a.isRef = false
  nb : b.isRef = false
  k1 : Kind
  t1 : Talk
  k2 : Kind
  t2 : Talk
  e1 : a.rows.find x = some (k1, t1)
  e2 : b.rows.find x = some (k2, t2)
section
variable {P : Program} {w : World} {K : PySem.W.Frag} {mg : Str → Option Value} {base : Heap} {C : Addr} (E : Fs w K mg C)
include E
theorem ok__law_kinds : FnG P w K mg base "_law_kinds" 2 (SpF C (fun z : KdA => [.d z.a.D, .d z.b.D, .d (.str z.x)]) (fun z r => r = if z.a.tag = "say" then [z.k2.D, z.k1.D] else [z.k1.D, z.k2.D])) := by
  obtain ⟨f, fd, F, hm⟩ := E.d__law_kinds
  refine (st__law_kinds F (fun _ => rfl) fun c I z => ?_).g hm F.kp
  have ok := I.ok
  have hN := I.N
  have hG := I.G
  have hL := I.Lo
  have f1 := I.fn (sp := fun C => SpD C _ _) (ok__law_row E) (by omega)
  obtain ⟨a, b, x, na, nb, k1, t1, k2, t2, e1, e2⟩ := z
  have go : ∀ s r1, a = .act s r1 → DSs c (envO [.d (Talk.act s r1).D, .d b.D, .d (.str x)] 1) (defBody s__law_kinds) ⟨fun _ => False, fun _ _ => False, fun ds _ => ds = if s = true then [k2.D, k1.D] else [k1.D, k2.D], fun _ => False, fun _ => False⟩ := by
    rintro s r1 rfl
    cases s <;> (
      show DSs c [some (.r (.d (.tuple [.str _, .tuple r1.D]))), some (.r (.d b.D)), some (.r (.d (.str x))), none] (_ :: _) _
      wtm_at "w"
      refine ⟨⟨(.act _ r1, x), rfl⟩, rfl, fun w hw => ?_⟩
      obtain rfl : w = .d (.tuple [.str x, k1.D, t1.D]) := hw.trans (by show W.d (rowD x (r1.find x)) = _; rw [show r1.find x = some (k1, t1) from e1]; rfl)
      wtm_at "w"
      refine ⟨⟨(b, x), nb⟩, rfl, fun w hw => ?_⟩
      obtain rfl : w = .d (.tuple [.str x, k2.D, t2.D]) := hw.trans (by show W.d (rowD x (b.rows.find x)) = _; rw [e2]; rfl)
      wtm_at "w"
      rfl)
  cases a with
  | fin => cases e1
  | ref _ _ => cases na
  | act s r1 =>
    have := go s r1 rfl
    cases s
    · exact this
    · exact this
theorem ok__law_asked : FnG P w K mg base "_law_asked" 1 (SpF C (fun z : HH => [.d z.a.D, .d z.b.D]) (fun z r => r = (askM z.a z.b).map PyData.str)) := by
  obtain ⟨f, fd, F, hm⟩ := E.d__law_asked
  refine (st__law_asked F (fun _ => rfl) fun c I z => ?_).g hm F.kp
  have ok := I.ok
  have hN := I.N
  have hG := I.G
  have hL := I.Lo
  obtain ⟨tab, a, b, ha, hb, na, nb⟩ := z
  cases a with
  | ref _ _ => cases na
  | fin =>
    show DSs c [some (.r (.d Talk.fin.D)), some (.r (.d b.D)), none] (_ :: _) _
    wtm_at "w"
    rfl
  | act s r1 =>
    cases b with
    | ref _ _ => cases nb
    | fin =>
      cases s <;> (
        show DSs c [some (.r (.d (Talk.act _ r1).D)), some (.r (.d Talk.fin.D)), none] (_ :: _) _
        wtm_at "w"
        rfl)
    | act s' r2 =>
      have z1 : r1.toL.length ≤ 1000000 := by
        have := Rows.toL_len r1
        have h2 := ha.size
        simp only [Talk.size] at h2
        omega
      have z2 : r2.toL.length ≤ 1000000 := by
        have := Rows.toL_len r2
        have h2 := hb.size
        simp only [Talk.size] at h2
        omega
      cases s <;> cases s'
      · show DSs c [some (.r (.d (Talk.act false r1).D)), some (.r (.d (Talk.act false r2).D)), none] (_ :: _) _
        wtm_at "w"
        refine lc_D .t I ["_law_row_here"] ["_law_row_here"] [] [("_law_row_here", 2)] (by decide +kernel) (by wtm_at "k.mk") fun cb Ib => ?_
        wtm_at "w"
        have okb := Ib.ok
        have hNb := Ib.N
        have hGb := Ib.G
        have hLb := Ib.Lo
        rw [Rows.D_toL]
        refine lc_map Row.D Row.lD z1 (fun r hr => ?_) ?_
        · obtain ⟨l, k, t⟩ := r
          show DG cb _ _ (.tuple [.str l, k.D, t.D]) _
          wtm_at "w"
          rfl
        · show r1.toL.map Row.lD = r1.labs.map PyData.str
          rw [labs_toL]
      · show DSs c [some (.r (.d (Talk.act false r1).D)), some (.r (.d (Talk.act true r2).D)), none] (_ :: _) _
        wtm_at "w"
        rfl
      · show DSs c [some (.r (.d (Talk.act true r1).D)), some (.r (.d (Talk.act false r2).D)), none] (_ :: _) _
        wtm_at "w"
        rfl
      · show DSs c [some (.r (.d (Talk.act true r1).D)), some (.r (.d (Talk.act true r2).D)), none] (_ :: _) _
        wtm_at "w"
        refine lc_D .t I ["_law_row_here"] ["_law_row_here"] [] [("_law_row_here", 2)] (by decide +kernel) (by wtm_at "k.mk") fun cb Ib => ?_
        wtm_at "w"
        have okb := Ib.ok
        have hNb := Ib.N
        have hGb := Ib.G
        have hLb := Ib.Lo
        rw [Rows.D_toL]
        refine lc_map Row.D Row.lD z2 (fun r hr => ?_) ?_
        · obtain ⟨l, k, t⟩ := r
          show DG cb _ _ (.tuple [.str l, k.D, t.D]) _
          wtm_at "w"
          rfl
        · show r2.toL.map Row.lD = r2.labs.map PyData.str
          rw [labs_toL]
end
/-! ### _law_fails, _law_after -/
/-- what not failing tells -/
def AlikeM (a b : Talk) : Prop := (a = .fin ∧ b = .fin) ∨ ∃ s r1 r2, a = .act s r1 ∧ b = .act s r2 ∧ ∀ x ∈ askM a b, fineM s r1 r2 x = true
theorem kind_tup {k : Kind} : isTupD k.D = k.isRef := by cases k <;> rfl
theorem tag_cases {a : Talk} (h : a.isRef = false) : a = .fin ∨ ∃ s rs, a = .act s rs := by
  cases a with
  | fin => exact .inl rfl
  | ref _ _ => cases h
  | act s rs => exact .inr ⟨s, rs, rfl⟩
theorem askM_mem {s : Bool} {r1 r2 : Rows} : askM (.act s r1) (.act s r2) = (if s then r2 else r1).labs := by cases s <;> rfl
section
variable {P : Program} {w : World} {K : PySem.W.Frag} {mg : Str → Option Value} {base : Heap} {C : Addr} (E : Fs w K mg C)
include E
theorem ok__law_fails : FnG P w K mg base "_law_fails" 3 (SpD C (fun z : HH => [.d z.a.D, .d z.b.D]) (fun z r => ∃ b, r = .d (.bool b) ∧ (b = false → AlikeM z.a z.b))) := by
  obtain ⟨f, fd, F, hm⟩ := E.d__law_fails
  refine (st__law_fails F (fun _ => rfl) fun c I z => ?_).g hm F.kp
  have ok := I.ok
  have hN := I.N
  have hG := I.G
  have hL := I.Lo
  have bi := I.bi E.bi
  have f1 := I.fn (sp := fun C => SpF C _ _) (ok__law_asked E) (by omega)
  have f2 := I.fn (sp := fun C => SpD C _ _) (ok__law_row E) (by omega)
  have f3 := I.fn (sp := fun C => SpF C _ _) (ok__law_kinds E) (by omega)
  obtain ⟨tab, a, b, ha, hb, na, nb⟩ := z
  have bad : ∀ {r : W}, r = .d (.bool true) → ∃ b', r = .d (.bool b') ∧ (b' = false → AlikeM a b) := fun h => ⟨true, h, fun z => by cases z⟩
  rcases tag_cases na with rfl | ⟨s, r1, rfl⟩
  · rcases tag_cases nb with rfl | ⟨s', r2, rfl⟩
    · show DSs c [some (.r (.d Talk.fin.D)), some (.r (.d Talk.fin.D)), none, none, none] (_ :: _) _
      wtm_at "w"
      refine ds_forL ok ?_
      wtm_at "w"
      refine ⟨⟨tab, .fin, .fin, ha, hb, rfl, rfl⟩, rfl, fun ds hds => ?_⟩
      subst hds
      refine ⟨_, rfl, ⟨fun _ env => env = [some (.r (.d Talk.fin.D)), some (.r (.d Talk.fin.D)), none, none, none], rfl, ?_, ?_⟩⟩
      · rintro d rest env ⟨pre, hp⟩ _
        exact absurd hp (by cases pre <;> simp [askM])
      · rintro env rfl
        wtm_at "w"
        exact fun _ => .inl ⟨rfl, rfl⟩
    · cases s' <;> (
        show DSs c [some (.r (.d Talk.fin.D)), some (.r (.d (Talk.act _ r2).D)), none, none, none] (_ :: _) _
        wtm_at "w"
        exact fun z => by cases z)
  · rcases tag_cases nb with rfl | ⟨s', r2, rfl⟩
    · cases s <;> (
        show DSs c [some (.r (.d (Talk.act _ r1).D)), some (.r (.d Talk.fin.D)), none, none, none] (_ :: _) _
        wtm_at "w"
        exact fun z => by cases z)
    · by_cases hs : s = s'
      · subst hs
        cases s
        · show DSs c [some (.r (.d (Talk.act false r1).D)), some (.r (.d (Talk.act false r2).D)), none, none, none] (_ :: _) _
          wtm_at "w"
          refine ds_forL ok ?_
          wtm_at "w"
          refine ⟨⟨tab, .act false r1, .act false r2, ha, hb, rfl, rfl⟩, rfl, fun ds hds => ?_⟩
          subst hds
          refine ⟨_, rfl, ⟨fun rest env => ∃ (ys zs : List Str) (q2 q3 q4 : Option Slot), askM (.act false r1) (.act false r2) = ys ++ zs ∧ rest = zs.map PyData.str ∧ env = [some (.r (.d (Talk.act false r1).D)), some (.r (.d (Talk.act false r2).D)), q2, q3, q4] ∧ ∀ x ∈ ys, fineM false r1 r2 x = true, ⟨[], _, _, _, _, rfl, rfl, rfl, fun x hx => (by cases hx)⟩, ?_, ?_⟩⟩
          · rintro d rest env _ ⟨ys, zs, q2, q3, q4, e1, er, rfl, hy⟩
            cases zs with
            | nil => cases er
            | cons x zs =>
              cases er
              wtm_at "w"
              refine ⟨⟨(.act false r1, x), rfl⟩, rfl, fun w hw => ?_⟩
              rcases g1 : r1.find x with _ | ⟨k1, t1⟩
              · obtain rfl : w = .d .none := hw.trans (by show W.d (rowD x (r1.find x)) = _; rw [g1]; rfl)
                wtm_at "w"
                exact fun z => by cases z
              · obtain rfl : w = .d (.tuple [.str x, k1.D, t1.D]) := hw.trans (by show W.d (rowD x (r1.find x)) = _; rw [g1]; rfl)
                wtm_at "w"
                refine ⟨⟨(.act false r2, x), rfl⟩, rfl, fun w hw => ?_⟩
                rcases g2 : r2.find x with _ | ⟨k2, t2⟩
                · obtain rfl : w = .d .none := hw.trans (by show W.d (rowD x (r2.find x)) = _; rw [g2]; rfl)
                  wtm_at "w"
                  exact fun z => by cases z
                · obtain rfl : w = .d (.tuple [.str x, k2.D, t2.D]) := hw.trans (by show W.d (rowD x (r2.find x)) = _; rw [g2]; rfl)
                  have h1 := Kind.shaped ha.ok (ha.next g1).2
                  have h2 := Kind.shaped ha.ok (hb.next g2).2
                  have o1 : eqOk k1.D k2.D = true := by simp only [eqOk, h1, h2, Bool.and_self, Bool.or_true]
                  have o2 : eqOk k2.D k1.D = true := by simp only [eqOk, h1, h2, Bool.and_self, Bool.or_true]
                  wtm_at "w"
                  refine ⟨⟨.act false r1, .act false r2, x, rfl, rfl, k1, t1, k2, t2, g1, g2⟩, rfl, fun ds hds => ?_⟩
                  obtain rfl : ds = [k1.D, k2.D] := hds
                  wtm_at "w"
                  all_goals first
                    | (intro z; cases z; done)
                    | (refine ⟨ys ++ [x], zs, _, _, _, by rw [e1]; simp, rfl, rfl, fun y hy' => (List.mem_append.mp hy').elim (hy y) fun z => ?_⟩
                       rw [List.mem_singleton.mp z]
                       simp only [fineM, g1, g2, kind_tup] at *
                       simp_all)
          · rintro env ⟨ys, zs, q2, q3, q4, e1, er, rfl, hy⟩
            cases zs with
            | cons x zs => cases er
            | nil =>
              wtm_at "w"
              exact fun _ => .inr ⟨_, r1, r2, rfl, rfl, fun x hx => hy x (by rw [e1] at hx; simpa using hx)⟩
        · show DSs c [some (.r (.d (Talk.act true r1).D)), some (.r (.d (Talk.act true r2).D)), none, none, none] (_ :: _) _
          wtm_at "w"
          refine ds_forL ok ?_
          wtm_at "w"
          refine ⟨⟨tab, .act true r1, .act true r2, ha, hb, rfl, rfl⟩, rfl, fun ds hds => ?_⟩
          subst hds
          refine ⟨_, rfl, ⟨fun rest env => ∃ (ys zs : List Str) (q2 q3 q4 : Option Slot), askM (.act true r1) (.act true r2) = ys ++ zs ∧ rest = zs.map PyData.str ∧ env = [some (.r (.d (Talk.act true r1).D)), some (.r (.d (Talk.act true r2).D)), q2, q3, q4] ∧ ∀ x ∈ ys, fineM true r1 r2 x = true, ⟨[], _, _, _, _, rfl, rfl, rfl, fun x hx => (by cases hx)⟩, ?_, ?_⟩⟩
          · rintro d rest env _ ⟨ys, zs, q2, q3, q4, e1, er, rfl, hy⟩
            cases zs with
            | nil => cases er
            | cons x zs =>
              cases er
              wtm_at "w"
              refine ⟨⟨(.act true r1, x), rfl⟩, rfl, fun w hw => ?_⟩
              rcases g1 : r1.find x with _ | ⟨k1, t1⟩
              · obtain rfl : w = .d .none := hw.trans (by show W.d (rowD x (r1.find x)) = _; rw [g1]; rfl)
                wtm_at "w"
                exact fun z => by cases z
              · obtain rfl : w = .d (.tuple [.str x, k1.D, t1.D]) := hw.trans (by show W.d (rowD x (r1.find x)) = _; rw [g1]; rfl)
                wtm_at "w"
                refine ⟨⟨(.act true r2, x), rfl⟩, rfl, fun w hw => ?_⟩
                rcases g2 : r2.find x with _ | ⟨k2, t2⟩
                · obtain rfl : w = .d .none := hw.trans (by show W.d (rowD x (r2.find x)) = _; rw [g2]; rfl)
                  wtm_at "w"
                  exact fun z => by cases z
                · obtain rfl : w = .d (.tuple [.str x, k2.D, t2.D]) := hw.trans (by show W.d (rowD x (r2.find x)) = _; rw [g2]; rfl)
                  have h1 := Kind.shaped ha.ok (ha.next g1).2
                  have h2 := Kind.shaped ha.ok (hb.next g2).2
                  have o1 : eqOk k1.D k2.D = true := by simp only [eqOk, h1, h2, Bool.and_self, Bool.or_true]
                  have o2 : eqOk k2.D k1.D = true := by simp only [eqOk, h1, h2, Bool.and_self, Bool.or_true]
                  wtm_at "w"
                  refine ⟨⟨.act true r1, .act true r2, x, rfl, rfl, k1, t1, k2, t2, g1, g2⟩, rfl, fun ds hds => ?_⟩
                  obtain rfl : ds = [k2.D, k1.D] := hds
                  wtm_at "w"
                  all_goals first
                    | (intro z; cases z; done)
                    | (refine ⟨ys ++ [x], zs, _, _, _, by rw [e1]; simp, rfl, rfl, fun y hy' => (List.mem_append.mp hy').elim (hy y) fun z => ?_⟩
                       rw [List.mem_singleton.mp z]
                       simp only [fineM, g1, g2, kind_tup] at *
                       simp_all)
          · rintro env ⟨ys, zs, q2, q3, q4, e1, er, rfl, hy⟩
            cases zs with
            | cons x zs => cases er
            | nil =>
              wtm_at "w"
              exact fun _ => .inr ⟨_, r1, r2, rfl, rfl, fun x hx => hy x (by rw [e1] at hx; simpa using hx)⟩
      · cases s <;> cases s' <;> first
          | exact absurd rfl hs
          | (show DSs c [some (.r (.d (Talk.act _ r1).D)), some (.r (.d (Talk.act _ r2).D)), none, none, none] (_ :: _) _
             wtm_at "w"
             exact fun z => by cases z)
end
/-! ### _law_after, _law_pairs, _law_is_subtalk -/
theorem prOne {tab : Tab} {ps : List Pr} {q : Pr} (hp : ∀ p ∈ ps, PrOk tab p) (hq : PrOk tab q) : ∀ p ∈ ps ++ [q], PrOk tab p := fun p h => (List.mem_append.mp h).elim (hp p) fun z => by rw [List.mem_singleton.mp z]; exact hq
theorem prTwo {tab : Tab} {ps : List Pr} {q r : Pr} (hp : ∀ p ∈ ps, PrOk tab p) (hq : PrOk tab q) (hr : PrOk tab r) : ∀ p ∈ ps ++ [q, r], PrOk tab p := fun p h => (List.mem_append.mp h).elim (hp p) fun z => by
  rcases List.mem_cons.mp z with z | z
  · rw [z]; exact hq
  · rw [List.mem_singleton.mp z]; exact hr
section
variable {P : Program} {w : World} {K : PySem.W.Frag} {mg : Str → Option Value} {base : Heap} {C : Addr} (E : Fs w K mg C)
include E
theorem ok__law_after : FnG P w K mg base "_law_after" 9 (SpF C (fun z : HH => [.tb z.tab.D, .d z.a.D, .d z.b.D]) (fun z r => ∃ ps : List Pr, r = ps.map Pr.D ∧ (∀ p ∈ ps, PrOk z.tab p) ∧ ps.length ≤ 1000)) := by
  obtain ⟨f, fd, F, hm⟩ := E.d__law_after
  refine (st__law_after F (fun _ => rfl) fun c I z => ?_).g hm F.kp
  have ok := I.ok
  have hN := I.N
  have hG := I.G
  have hL := I.Lo
  have bi := I.bi E.bi
  have f1 := I.fn (sp := fun C => SpD C _ _) (ok__law_fails E) (by omega)
  have f2 := I.fn (sp := fun C => SpF C _ _) (ok__law_asked E) (by omega)
  have f3 := I.fn (sp := fun C => SpF C _ _) (ok__law_kinds E) (by omega)
  have f4 := I.fn (sp := fun C => SpD C _ _) (ok__law_row E) (by omega)
  have f5 := I.fn (sp := fun C => SpD C _ _) (ok__law_head E 3) (by omega)
  obtain ⟨tab, a, b, ha, hb, na, nb⟩ := z
  show DSs c [some (.r (.tb tab.D)), some (.r (.d a.D)), some (.r (.d b.D)), none, none, none] (_ :: _) _
  wtm_at "w"
  refine ⟨⟨tab, a, b, ha, hb, na, nb⟩, rfl, fun w hw => ?_⟩
  obtain ⟨k, rfl, hk⟩ := hw
  cases k with
  | true =>
    wtm_at "w"
    exact ⟨[], rfl, fun p hp => (by cases hp), by simp⟩
  | false =>
    wtm_at "w"
    refine ds_forL ok ?_
    wtm_at "w"
    refine ⟨⟨tab, a, b, ha, hb, na, nb⟩, rfl, fun ds hds => ?_⟩
    subst hds
    have hll : (askM a b).length ≤ 25 := by
      rcases tag_cases na with rfl | ⟨s, r1, rfl⟩
      · simp [askM]
      · rcases tag_cases nb with rfl | ⟨s', r2, rfl⟩
        · cases s <;> simp [askM]
        · have z1 := labs_len r1
          have z2 := labs_len r2
          have y1 := ha.size
          have y2 := hb.size
          simp only [Talk.size] at y1 y2
          cases s <;> cases s' <;> simp only [askM, List.length_nil] <;> omega
    refine ⟨_, rfl, ⟨fun rest env => ∃ (ys zs : List Str) (ps : List Pr) (q4 q5 : Option Slot), askM a b = ys ++ zs ∧ rest = zs.map PyData.str ∧ env = [some (.r (.tb tab.D)), some (.r (.d a.D)), some (.r (.d b.D)), some (.l (ps.map Pr.D)), q4, q5] ∧ (∀ p ∈ ps, PrOk tab p) ∧ ps.length + 2 * zs.length ≤ 50, ⟨[], _, [], _, _, rfl, rfl, rfl, fun p hp => (by cases hp), by show 0 + 2 * (askM a b).length ≤ 50; omega⟩, ?_, ?_⟩⟩
    · rintro d rest env _ ⟨ys, zs, ps, q4, q5, e1, er, rfl, hp, hz⟩
      cases zs with
      | nil => cases er
      | cons x zs =>
        cases er
        have hx : x ∈ askM a b := by rw [e1]; simp
        simp only [List.length_cons] at hz
        have l1 : (ps.map Pr.D).length < 1000000 := by rw [List.length_map]; omega
        have l2 : ∀ d : PD, (ps.map Pr.D ++ [d]).length < 1000000 := fun d => by rw [List.length_append, List.length_map]; simp only [List.length_cons, List.length_nil]; omega
        rcases hk rfl with ⟨rfl, rfl⟩ | ⟨s, r1, r2, rfl, rfl, hfine⟩
        · simp [askM] at hx
        · have hf := hfine x hx
          obtain ⟨k1, t1, k2, t2, g1, g2⟩ := fine_find hf
          obtain ⟨u1, o1⟩ := ha.next g1
          obtain ⟨u2, o2⟩ := hb.next g2
          cases s
          · wtm_at "w"
            refine ⟨⟨.act false r1, .act false r2, x, rfl, rfl, k1, t1, k2, t2, g1, g2⟩, rfl, fun ds hds => ?_⟩
            obtain rfl : ds = [k1.D, k2.D] := hds
            have fb := fine_both g1 g2 hf
            have l3 := l2 (.tuple [(headM tab k1.T).D, (headM tab k2.T).D])
            wtm_at "w"
            · rename_i h
              rw [kind_tup] at h
              have hr := fb h
              have c1 := TU.kind ha.ok o1 hr.1
              have c2 := TU.kind ha.ok o2 hr.2
              refine ⟨⟨(tab, k1.T), c1.1.toTA, c1.1.toTA.rk⟩, by show [W.tb tab.D, W.d k1.D] = [W.tb tab.D, W.d k1.T.D]; rw [c1.2], fun w hw => ?_⟩
              subst hw
              wtm_at "w"
              refine ⟨⟨(tab, k2.T), c2.1.toTA, c2.1.toTA.rk⟩, by show [W.tb tab.D, W.d k2.D] = [W.tb tab.D, W.d k2.T.D]; rw [c2.2], fun w hw => ?_⟩
              subst hw
              wtm_at "w"
              refine ⟨⟨(.act false r1, x), rfl⟩, rfl, fun w hw => ?_⟩
              obtain rfl : w = .d (.tuple [.str x, k1.D, t1.D]) := hw.trans (by show W.d (rowD x (r1.find x)) = _; rw [g1]; rfl)
              wtm_at "w"
              refine ⟨⟨(tab, t1), u1.toTA, u1.toTA.rk⟩, rfl, fun w hw => ?_⟩
              subst hw
              wtm_at "w"
              refine ⟨⟨(.act false r2, x), rfl⟩, rfl, fun w hw => ?_⟩
              obtain rfl : w = .d (.tuple [.str x, k2.D, t2.D]) := hw.trans (by show W.d (rowD x (r2.find x)) = _; rw [g2]; rfl)
              wtm_at "w"
              refine ⟨⟨(tab, t2), u2.toTA, u2.toTA.rk⟩, rfl, fun w hw => ?_⟩
              subst hw
              wtm_at "w"
              exact ⟨ys ++ [x], zs, ps ++ [(headM tab k1.T, headM tab k2.T), (headM tab t1, headM tab t2)], _, _, by rw [e1]; simp, rfl, by rw [List.map_append]; rw [List.append_assoc]; rfl, prTwo hp (PrOk.mk' c1.1 c2.1) (PrOk.mk' u1 u2), by rw [List.length_append]; simp only [List.length_cons, List.length_nil]; omega⟩
            · rename_i h
              refine ⟨⟨(.act false r1, x), rfl⟩, rfl, fun w hw => ?_⟩
              obtain rfl : w = .d (.tuple [.str x, k1.D, t1.D]) := hw.trans (by show W.d (rowD x (r1.find x)) = _; rw [g1]; rfl)
              wtm_at "w"
              refine ⟨⟨(tab, t1), u1.toTA, u1.toTA.rk⟩, rfl, fun w hw => ?_⟩
              subst hw
              wtm_at "w"
              refine ⟨⟨(.act false r2, x), rfl⟩, rfl, fun w hw => ?_⟩
              obtain rfl : w = .d (.tuple [.str x, k2.D, t2.D]) := hw.trans (by show W.d (rowD x (r2.find x)) = _; rw [g2]; rfl)
              wtm_at "w"
              refine ⟨⟨(tab, t2), u2.toTA, u2.toTA.rk⟩, rfl, fun w hw => ?_⟩
              subst hw
              wtm_at "w"
              exact ⟨ys ++ [x], zs, ps ++ [(headM tab t1, headM tab t2)], _, _, by rw [e1]; simp, rfl, by rw [List.map_append]; rfl, prOne hp (PrOk.mk' u1 u2), by rw [List.length_append]; simp only [List.length_cons, List.length_nil]; omega⟩
          · wtm_at "w"
            refine ⟨⟨.act true r1, .act true r2, x, rfl, rfl, k1, t1, k2, t2, g1, g2⟩, rfl, fun ds hds => ?_⟩
            obtain rfl : ds = [k2.D, k1.D] := hds
            have fb := fine_both g1 g2 hf
            have l3 := l2 (.tuple [(headM tab k2.T).D, (headM tab k1.T).D])
            wtm_at "w"
            · rename_i h
              rw [kind_tup] at h
              have hr := fb h
              have c1 := TU.kind ha.ok o1 hr.1
              have c2 := TU.kind ha.ok o2 hr.2
              refine ⟨⟨(tab, k2.T), c2.1.toTA, c2.1.toTA.rk⟩, by show [W.tb tab.D, W.d k2.D] = [W.tb tab.D, W.d k2.T.D]; rw [c2.2], fun w hw => ?_⟩
              subst hw
              wtm_at "w"
              refine ⟨⟨(tab, k1.T), c1.1.toTA, c1.1.toTA.rk⟩, by show [W.tb tab.D, W.d k1.D] = [W.tb tab.D, W.d k1.T.D]; rw [c1.2], fun w hw => ?_⟩
              subst hw
              wtm_at "w"
              refine ⟨⟨(.act true r1, x), rfl⟩, rfl, fun w hw => ?_⟩
              obtain rfl : w = .d (.tuple [.str x, k1.D, t1.D]) := hw.trans (by show W.d (rowD x (r1.find x)) = _; rw [g1]; rfl)
              wtm_at "w"
              refine ⟨⟨(tab, t1), u1.toTA, u1.toTA.rk⟩, rfl, fun w hw => ?_⟩
              subst hw
              wtm_at "w"
              refine ⟨⟨(.act true r2, x), rfl⟩, rfl, fun w hw => ?_⟩
              obtain rfl : w = .d (.tuple [.str x, k2.D, t2.D]) := hw.trans (by show W.d (rowD x (r2.find x)) = _; rw [g2]; rfl)
              wtm_at "w"
              refine ⟨⟨(tab, t2), u2.toTA, u2.toTA.rk⟩, rfl, fun w hw => ?_⟩
              subst hw
              wtm_at "w"
              exact ⟨ys ++ [x], zs, ps ++ [(headM tab k2.T, headM tab k1.T), (headM tab t1, headM tab t2)], _, _, by rw [e1]; simp, rfl, by rw [List.map_append]; rw [List.append_assoc]; rfl, prTwo hp (PrOk.mk' c2.1 c1.1) (PrOk.mk' u1 u2), by rw [List.length_append]; simp only [List.length_cons, List.length_nil]; omega⟩
            · rename_i h
              refine ⟨⟨(.act true r1, x), rfl⟩, rfl, fun w hw => ?_⟩
              obtain rfl : w = .d (.tuple [.str x, k1.D, t1.D]) := hw.trans (by show W.d (rowD x (r1.find x)) = _; rw [g1]; rfl)
              wtm_at "w"
              refine ⟨⟨(tab, t1), u1.toTA, u1.toTA.rk⟩, rfl, fun w hw => ?_⟩
              subst hw
              wtm_at "w"
              refine ⟨⟨(.act true r2, x), rfl⟩, rfl, fun w hw => ?_⟩
              obtain rfl : w = .d (.tuple [.str x, k2.D, t2.D]) := hw.trans (by show W.d (rowD x (r2.find x)) = _; rw [g2]; rfl)
              wtm_at "w"
              refine ⟨⟨(tab, t2), u2.toTA, u2.toTA.rk⟩, rfl, fun w hw => ?_⟩
              subst hw
              wtm_at "w"
              exact ⟨ys ++ [x], zs, ps ++ [(headM tab t1, headM tab t2)], _, _, by rw [e1]; simp, rfl, by rw [List.map_append]; rfl, prOne hp (PrOk.mk' u1 u2), by rw [List.length_append]; simp only [List.length_cons, List.length_nil]; omega⟩
    · rintro env ⟨ys, zs, ps, q4, q5, e1, er, rfl, hp, hz⟩
      cases zs with
      | cons x zs => cases er
      | nil =>
        wtm_at "w"
        exact ⟨ps, rfl, hp, by omega⟩
end
theorem WsOk.shaped {tab : Tab} {ps : List Pr} (h : WsOk tab ps) : SeqAt.shaped (.list (ps.map Pr.D)) = true := by
  have : ∀ l : List Pr, (∀ p ∈ l, PrOk tab p) → PyData.canLayAll0 (l.map Pr.D) = true ∧ PyData.depthAll (l.map Pr.D) ≤ 8 := by
    intro l
    induction l with
    | nil => intro _; exact ⟨by simp [PyData.canLayAll0], by simp [PyData.depthAll]⟩
    | cons p l ih =>
      intro hl
      obtain ⟨g1, g2⟩ := ih fun q hq => hl q (List.mem_cons_of_mem _ hq)
      have g3 := hl p List.mem_cons_self
      obtain ⟨g5, g6⟩ := Pr.lay g3.t1 g3.t2
      refine ⟨by simp only [List.map_cons, PyData.canLayAll0, g5, g1]; rfl, ?_⟩
      simp only [List.map_cons, PyData.depthAll]
      omega
  obtain ⟨g1, g2⟩ := this ps h.u
  refine shaped_of ?_ ?_
  · simp only [PyData.canLay0]; exact g1
  · simp only [PyData.depth]; omega
section
variable {P : Program} {w : World} {K : PySem.W.Frag} {mg : Str → Option Value} {base : Heap} {C : Addr} (E : Fs w K mg C)
include E
theorem ok__law_pairs : FnG P w K mg base "_law_pairs" 10 (SpF C (fun z : WA => [.tb z.tab.D, .d z.one.D, .d z.two.D]) (fun z r => ∃ ps : List Pr, r = ps.map Pr.D ∧ WsOk z.tab ps)) := by
  obtain ⟨f, fd, F, hm⟩ := E.d__law_pairs
  refine (st__law_pairs F (fun _ => rfl) fun c I z => ?_).g hm F.kp
  have ok := I.ok
  have hN := I.N
  have hG := I.G
  have hL := I.Lo
  have bi := I.bi E.bi
  have f1 := I.fn (sp := fun C => SpF C _ _) (ok__law_after E) (by omega)
  have f5 := I.fn (sp := fun C => SpD C _ _) (ok__law_head E 3) (by omega)
  obtain ⟨tab, one, two, h1, h2⟩ := z
  show DSs c [some (.r (.tb tab.D)), some (.r (.d one.D)), some (.r (.d two.D)), none, none, none] (_ :: _) _
  wtm_at "w"
  refine ⟨⟨(tab, one), h1.toTA, h1.toTA.rk⟩, rfl, fun w hw => ?_⟩
  subst hw
  wtm_at "w"
  refine ⟨⟨(tab, two), h2.toTA, h2.toTA.rk⟩, rfl, fun w hw => ?_⟩
  subst hw
  wtm_at "w"
  refine ds_while ok (fun env => ∃ (ps : List Pr) (i : Nat) (q5 : Option Slot), env = [some (.r (.tb tab.D)), some (.r (.d one.D)), some (.r (.d two.D)), some (.l (ps.map Pr.D)), some (.r (.d (.int (i : Int)))), q5] ∧ WsOk tab ps ∧ i ≤ ps.length) (fun env => match env with
    | [_, _, _, _, some (.r (.d (.int i))), _] => 30000 - i.toNat
    | _ => 0) ⟨[(headM tab one, headM tab two)], 0, none, rfl, ⟨by simp, fun p hp => by rw [List.mem_singleton.mp hp]; exact PrOk.mk' h1 h2⟩, Nat.zero_le _⟩ ?_
  rintro env ⟨ps, i, q5, rfl, hW, hi⟩
  have hlen := hW.len h1.ok
  wtm_at "w"
  · rename_i h
    rw [List.length_map] at h
    have h : i < ps.length := by have := of_decide_eq_true h; omega
    refine ds_forL ok ?_
    have hix : ∀ ps : List Pr, (hh : i < ps.length) → atI (ps.map Pr.D) (i : Int) = some (ps[i]).D := fun ps hh => by
      rw [atI_n (by rw [List.length_map]; exact hh)]
      simp [nth, List.getD_eq_getElem?_getD, hh]
    have hp := hW.u _ (List.getElem_mem h)
    wtm_at "w"
    refine ⟨_, _, rfl, hix ps h, ?_⟩
    wtm_at "w"
    refine ⟨_, _, rfl, hix ps h, ?_⟩
    wtm_at "w"
    refine ⟨⟨tab, (ps[i]).1, (ps[i]).2, hp.t1, hp.t2, hp.n1, hp.n2⟩, rfl, fun ds hds => ?_⟩
    obtain ⟨qs, rfl, hq, hz⟩ := hds
    refine ⟨_, rfl, ⟨fun rest env => ∃ (zs ps : List Pr) (q5 : Option Slot), rest = zs.map Pr.D ∧ env = [some (.r (.tb tab.D)), some (.r (.d one.D)), some (.r (.d two.D)), some (.l (ps.map Pr.D)), some (.r (.d (.int (i : Int)))), q5] ∧ WsOk tab ps ∧ i < ps.length ∧ ∀ p ∈ zs, PrOk tab p, ⟨qs, ps, q5, rfl, rfl, hW, h, hq⟩, ?_, ?_⟩⟩
    · rintro d rest env _ ⟨zs, ps, q5, er, rfl, hW, h, hq⟩
      cases zs with
      | nil => cases er
      | cons p zs =>
        cases er
        have hpo := hq p List.mem_cons_self
        obtain ⟨y1, y2⟩ := Pr.lay hpo.t1 hpo.t2
        have hlen := hW.len h1.ok
        have hl : (ps.map Pr.D).length < 1000000 := by rw [List.length_map]; omega
        have hadd := hW.add1 hpo
        wtm_at "w"
        refine ⟨shaped_of y1 (Nat.le_trans y2 (by decide)), hW.shaped, ?_⟩
        show ((!memP ps p) = true → _) ∧ ((!memP ps p) = false → _)
        cases hm2 : memP ps p with
        | true =>
          rw [hm2] at hadd
          wtm_at "w"
          exact ⟨zs, ps, _, rfl, rfl, hadd, h, fun q hq' => hq q (List.mem_cons_of_mem _ hq')⟩
        | false =>
          rw [hm2] at hadd
          wtm_at "w"
          exact ⟨zs, ps ++ [p], _, rfl, by rw [List.map_append]; rfl, hadd, by rw [List.length_append]; omega, fun q hq' => hq q (List.mem_cons_of_mem _ hq')⟩
    · rintro env ⟨zs, ps, q5, er, rfl, hW, h, hq⟩
      have hlen := hW.len h1.ok
      wtm_at "w"
      refine ⟨⟨ps, i + 1, q5, rfl, hW, h⟩, ?_⟩
      show 30000 - ((i : Int) + 1).toNat < 30000 - (i : Int).toNat
      omega
  · exact ⟨ps, rfl, hW⟩
theorem ok__law_is_subtalk : FnG P w K mg base "_law_is_subtalk" 11 (SpD C (fun z : WA => [.tb z.tab.D, .d z.one.D, .d z.two.D]) (fun z r => ∃ b, r = .d (.bool b))) := by
  obtain ⟨f, fd, F, hm⟩ := E.d__law_is_subtalk
  refine (st__law_is_subtalk F (fun _ => rfl) fun c I z => ?_).g hm F.kp
  have ok := I.ok
  have hN := I.N
  have hG := I.G
  have hL := I.Lo
  have f1 := I.fn (sp := fun C => SpF C _ _) (ok__law_pairs E) (by omega)
  have f2 := I.fn (sp := fun C => SpD C _ _) (ok__law_fails E) (by omega)
  obtain ⟨tab, one, two, h1, h2⟩ := z
  show DSs c [some (.r (.tb tab.D)), some (.r (.d one.D)), some (.r (.d two.D)), none] (_ :: _) _
  refine dss_cons (ds_forL ok ?_)
  wtm_at "w"
  refine ⟨⟨tab, one, two, h1, h2⟩, rfl, fun ds hds => ?_⟩
  obtain ⟨qs, rfl, hq⟩ := hds
  refine ⟨_, rfl, ⟨fun rest env => ∃ (zs : List Pr) (q3 : Option Slot), rest = zs.map Pr.D ∧ env = [some (.r (.tb tab.D)), some (.r (.d one.D)), some (.r (.d two.D)), q3] ∧ ∀ p ∈ zs, PrOk tab p, ⟨qs, _, rfl, rfl, hq.u⟩, ?_, ?_⟩⟩
  · rintro d rest env _ ⟨zs, q3, er, rfl, hq⟩
    cases zs with
    | nil => cases er
    | cons p zs =>
      cases er
      have hpo := hq p List.mem_cons_self
      wtm_at "w"
      refine ⟨⟨tab, p.1, p.2, hpo.t1, hpo.t2, hpo.n1, hpo.n2⟩, rfl, fun w hw => ?_⟩
      obtain ⟨b, rfl, _⟩ := hw
      cases b with
      | true =>
        wtm_at "w"
        exact ⟨_, rfl⟩
      | false =>
        wtm_at "w"
        exact ⟨zs, _, rfl, rfl, fun q hq' => hq q (List.mem_cons_of_mem _ hq')⟩
  · rintro env ⟨zs, q3, er, rfl, hq⟩
    wtm_at "w"
    exact ⟨_, rfl⟩
end
/-! ## The law's state, read -/
def sideB (l : Lc) : PD → PD → Bool
  | .int i, .int j => (gt l.m (i, j)).isSome
  | _, _ => false
section
variable {P : Program} {w : World} {K : PySem.W.Frag} {mg : Str → Option Value} {base : Heap} {C : Addr} (E : Fs w K mg C)
include E
theorem ok__law_end : FnG P w K mg base "_law_end" 2 (SpD C (fun d : { d : PD // payB d = true } => [.d d.1]) (fun d r => r = .d (.bool (endP d.1).isSome))) := by
  obtain ⟨f, fd, F, hm⟩ := E.d__law_end
  refine (st__law_end F (fun _ => rfl) fun c I d => ?_).g hm F.kp
  have ok := I.ok
  have hN := I.N
  have hG := I.G
  have bi := I.bi E.bi
  have f1 := I.fn (sp := fun C => SpD C _ _) (ok__law_whole E) (by omega)
  obtain ⟨d, hd⟩ := d
  cases d with
  | tuple ds =>
    obtain ⟨⟨i, j⟩, hg⟩ := Option.isSome_iff_exists.mp (show (endP (.tuple ds)).isSome = true from hd)
    have e := endP_shape hg
    cases e
    show DSs c [some (.r (.d (.tuple [.str "end", .int i, .int j])))] (_ :: _) _
    wtm_at "w"
    refine ⟨.int i, rfl, fun w hw => ?_⟩
    obtain rfl : w = .d (.bool true) := hw
    wtm_at "w"
    refine ⟨.int j, rfl, fun w hw => ?_⟩
    obtain rfl : w = .d (.bool true) := hw
    rfl
  | list _ => cases hd
  | dict _ => cases hd
  | str _ => cases hd
  | _ =>
    show DSs c [some (.r (.d _))] (_ :: _) _
    wtm_at "w"
    rfl
theorem ok__law_running : FnG P w K mg base "_law_running" 2 (SpD C (fun z : Lc × Int => [.st z.1.D, .d (.int z.2)]) (fun z r => ∃ b, r = .d (.bool b) ∧ (b = true → actP z.1.f z.2))) := by
  obtain ⟨f, fd, F, hm⟩ := E.d__law_running
  refine (st__law_running F (fun _ => rfl) fun c I z => ?_).g hm F.kp
  have ok := I.ok
  have hN := I.N
  have hG := I.G
  have bi := I.bi E.bi
  have f1 := I.fn (sp := fun C => SpD C _ _) (ok__law_whole E) (by omega)
  obtain ⟨l, i⟩ := z
  have hl : l.D.f.length = l.f.length := by show (l.f.map PyData.bool).length = _; rw [List.length_map]
  show DSs c [some (.r (.st l.D)), some (.r (.d (.int i)))] (_ :: _) _
  wtm_at "w"
  refine ⟨.int i, rfl, fun w hw => ?_⟩
  obtain rfl : w = .d (.bool true) := hw
  wtm_at "w"
  · rename_i h1 h2
    have h1' := of_decide_eq_true h1
    have h2' := of_decide_eq_true h2
    rw [hl] at h2'
    obtain ⟨k, rfl⟩ := Int.eq_ofNat_of_zero_le h1'
    have hk : k < l.f.length := by omega
    have hat : ixW (.d (.list l.D.f)) (.d (.int (k : Int))) = some (.d (.bool (l.f[k]))) := by
      rw [ix_ln (by rw [hl]; exact hk)]
      show some (W.d (nth (l.f.map PyData.bool) k)) = _
      simp [nth, List.getD_eq_getElem?_getD, hk]
    refine ⟨_, hat, ?_⟩
    wtm_at "w"
    exact fun _ => ⟨h1', by show (k : Int) < l.f.length; omega⟩
  · exact fun z => by cases z
  · exact fun z => by cases z
theorem ok__law_is_side : FnG P w K mg base "_law_is_side" 2 (SpD C (fun z : Lc × Str × Int × Int × List PD => [.st z.1.D, .d (.tuple (.str z.2.1 :: .int z.2.2.1 :: .int z.2.2.2.1 :: z.2.2.2.2))]) (fun z r => r = .d (.bool (gt z.1.m (z.2.2.1, z.2.2.2.1)).isSome))) := by
  obtain ⟨f, fd, F, hm⟩ := E.d__law_is_side
  refine (st__law_is_side F (fun _ => rfl) fun c I z => ?_).g hm F.kp
  have ok := I.ok
  have hN := I.N
  have hG := I.G
  have f1 := I.fn (sp := fun C => SpD C _ _) (ok__law_whole E) (by omega)
  obtain ⟨l, nm, i, j, ds⟩ := z
  show DSs c [some (.r (.st l.D)), some (.r (.d (.tuple (.str nm :: .int i :: .int j :: ds))))] (_ :: _) _
  wtm_at "w"
  refine ⟨_, ix_t1, ?_⟩
  wtm_at "w"
  refine ⟨.int i, rfl, fun w hw => ?_⟩
  obtain rfl : w = .d (.bool true) := hw
  wtm_at "w"
  refine ⟨_, ix_t2, ?_⟩
  wtm_at "w"
  refine ⟨.int j, rfl, fun w hw => ?_⟩
  obtain rfl : w = .d (.bool true) := hw
  wtm_at "w"
  refine ⟨_, ix_t1, ?_⟩
  wtm_at "w"
  refine ⟨_, ix_t2, ?_⟩
  wtm_at "w"
  show W.d (.bool (lkp l.D.m (i, j)).isSome) = W.d (.bool (gt l.m (i, j)).isSome)
  rw [Lc.gt_m, Option.isSome_map]
theorem ok__law_like : FnG P w K mg base "_law_like" 3 (SpD C (fun z : { z : PD × PD // payB z.1 = true ∧ payB z.2 = true } => [.d z.1.1, .d z.1.2]) (fun z r => ∃ b, r = .d (.bool b) ∧ (b = true → z.1.1 = z.1.2))) := by
  obtain ⟨f, fd, F, hm⟩ := E.d__law_like
  refine (st__law_like F (fun _ => rfl) fun c I z => ?_).g hm F.kp
  have ok := I.ok
  have hN := I.N
  have hG := I.G
  have bi := I.bi E.bi
  have f1 := I.fn (sp := fun C => SpD C _ _) (ok__law_end E) (by omega)
  obtain ⟨⟨a, b⟩, ha, hb⟩ := z
  have o1 : eqOk a b = true := by simp only [eqOk, payB_shaped ha, payB_shaped hb, Bool.and_self, Bool.or_true]
  have fin : (endP a).isSome = (endP b).isSome → isBoolD a = isBoolD b → PyData.eqv a b = true → a = b := fun h1 h2 h3 => eqv_exact ha h2 h1 h3
  have nb : (endP a).isSome = true → isBoolD a = false := fun h => by cases a <;> first | rfl | cases h
  have nb' : (endP b).isSome = true → isBoolD b = false := fun h => by cases b <;> first | rfl | cases h
  show DSs c [some (.r (.d a)), some (.r (.d b))] (_ :: _) _
  have call : ∀ d : PD, payB d = true → True := fun _ _ => trivial
  cases h1 : (endP a).isSome <;> cases h2 : (endP b).isSome
  all_goals
    wtm_at "w"
    repeat' (first
      | (refine ⟨⟨a, ha⟩, rfl, fun w hw => ?_⟩; obtain rfl : w = .d (.bool _) := hw.trans (by rw [h1]); wtm_at "w")
      | (refine ⟨⟨b, hb⟩, rfl, fun w hw => ?_⟩; obtain rfl : w = .d (.bool _) := hw.trans (by rw [h2]); wtm_at "w")
      | fail "no")
  all_goals first
    | (intro z; cases z; done)
    | (intro h3
       refine fin (h1.trans h2.symm) ?_ h3
       first
         | exact (nb h1).trans (nb' h2).symm
         | (rename_i y1 y2; exact y1.trans y2.symm))
end
/-! ### _law_may_open, _law_may_say -/
def Ev.gen (tab : Tab) : Ev → Prop
  | .opn _ _ _ _ nm => (tab.get nm).isSome = true
  | .say _ _ x d => gs x = true ∧ payB d = true
  | .hear _ _ x d => gs x = true ∧ payB d = true
  | .become _ x => x = .str "A" ∨ x = .str "Main"
  | _ => True
theorem inL_keys {x : Str} {α : Type} (g : α → Str) : ∀ l : List α, ∃ k, inL x (l.map fun p => .str (g p)) = some k
  | [] => ⟨_, rfl⟩
  | a :: l => by
    obtain ⟨k, hk⟩ := inL_keys g l
    exact ⟨_, by show (inL x (l.map fun p => .str (g p))).map _ = _; rw [hk]; rfl⟩
structure MsA where
  tab : Tab
  l : Lc
  k : Nat
  hl : LcOk tab k l
  p : Pl
  x : Str
  kd : Kind
  u : Talk
  hkd : kd.ok tab = true
  d : PD
  hd : payB d = true
section
variable {P : Program} {w : World} {K : PySem.W.Frag} {mg : Str → Option Value} {base : Heap} {C : Addr} (E : Fs w K mg C)
include E
theorem ok__law_may_open : FnG P w K mg base "_law_may_open" 3 (SpD C (fun z : Tab × Lc × Int × Int × Int × Bool × Str => [.tb z.1.D, .st z.2.1.D, .d (Ev.opn z.2.2.1 z.2.2.2.1 z.2.2.2.2.1 z.2.2.2.2.2.1 z.2.2.2.2.2.2).D]) (fun z r => ∃ b, r = .d (.bool b))) := by
  obtain ⟨f, fd, F, hm⟩ := E.d__law_may_open
  refine (st__law_may_open F (fun _ => rfl) fun c I z => ?_).g hm F.kp
  have ok := I.ok
  have hN := I.N
  have hG := I.G
  have hL := I.Lo
  have bi := I.bi E.bi
  have f1 := I.fn (sp := fun C => SpD C _ _) (ok__law_running E) (by omega)
  have f2 := I.fn (sp := fun C => SpD C _ _) (ok__law_whole E) (by omega)
  obtain ⟨tab, l, a, cc, n, x, nm⟩ := z
  obtain ⟨kk, hkk⟩ := inL_keys (x := nm) (fun p : Str × PD => p.1) tab.D
  have hin : inW (.d (.str nm)) (.d (.list (tab.D.map fun p => .str p.1))) = some kk := hkk
  have go : ∀ t : Str, (t = "name" ∨ t = "dual") → DSs c [some (.r (.tb tab.D)), some (.r (.st l.D)), some (.r (.d (.tuple [.str "open", .int a, .int cc, .int n, .tuple [.str t, .str nm]]))), none] (defBody s__law_may_open) ⟨fun _ => ∃ b, W.d .none = .d (.bool b), fun r _ => ∃ b, r = .d (.bool b), fun ds _ => ∃ b, W.d (.list ds) = .d (.bool b), fun _ => False, fun _ => False⟩ := by
    intro t ht
    rcases ht with rfl | rfl <;> (
      show DSs c _ (_ :: _) _
      wtm_at "w"
      refine ⟨(l, a), rfl, fun w hw => ?_⟩
      obtain ⟨b, rfl, _⟩ := hw
      cases b with
      | false =>
        wtm_at "w"
        exact ⟨_, rfl⟩
      | true =>
        wtm_at "w"
        refine ⟨.int cc, rfl, fun w hw => ?_⟩
        obtain rfl : w = .d (.bool true) := hw
        wtm_at "w"
        refine ⟨.int n, rfl, fun w hw => ?_⟩
        obtain rfl : w = .d (.bool true) := hw
        wtm_at "w"
        all_goals first
          | exact ⟨_, rfl⟩
          | (refine ⟨.inl (by decide), ?_⟩
             wtm_at "w"
             all_goals first
               | exact ⟨_, rfl⟩
               | (refine ⟨_, rfl, ?_⟩
                  wtm_at "w"
                  exact ⟨_, rfl⟩)))
  cases x
  · exact go "name" (.inl rfl)
  · exact go "dual" (.inr rfl)
theorem ok__law_may_say : FnG P w K mg base "_law_may_say" 12 (SpD C (fun z : MsA => [.tb z.tab.D, .st z.l.D, .d (pd z.p), .d (.tuple [.str z.x, z.kd.D, z.u.D]), .d z.d]) (fun z r => ∃ b, r = .d (.bool b) ∧ (b = true → ∀ g, endP z.d = some g → gt z.l.m g = some "open" ∧ g ≠ z.p))) := by
  obtain ⟨f, fd, F, hm⟩ := E.d__law_may_say
  refine (st__law_may_say F (fun _ => rfl) fun c I z => ?_).g hm F.kp
  have ok := I.ok
  have hN := I.N
  have hG := I.G
  have hL := I.Lo
  have bi := I.bi E.bi
  have f1 := I.fn (sp := fun C => SpD C _ _) (ok__law_end E) (by omega)
  have f2 := I.fn (sp := fun C => SpD C _ _) (ok__law_whole E) (by omega)
  have f3 := I.fn (sp := fun C => SpD C _ _) (ok__law_is_subtalk E) (by omega)
  obtain ⟨tab, l, k, hl, ⟨i, j⟩, x, kd, u, hkd, d, hd⟩ := z
  have non : ∀ {b : Bool} {Q : Pl → Prop}, endP d = none → (b = true → ∀ g, endP d = some g → Q g) := fun h _ g hg => by rw [h] at hg; cases hg
  cases kd with
  | non =>
    show DSs c [some (.r (.tb tab.D)), some (.r (.st l.D)), some (.r (.d (.tuple [.int i, .int j]))), some (.r (.d (.tuple [.str x, .none, u.D]))), some (.r (.d d)), none] (_ :: _) _
    wtm_at "w"
    intro h g hg
    have : d = .none := by cases d <;> first | rfl | cases h
    subst this
    cases hg
  | int =>
    show DSs c [some (.r (.tb tab.D)), some (.r (.st l.D)), some (.r (.d (.tuple [.int i, .int j]))), some (.r (.d (.tuple [.str x, .str "int", u.D]))), some (.r (.d d)), none] (_ :: _) _
    wtm_at "w"
    refine ⟨d, rfl, fun w hw => ?_⟩
    subst hw
    wtm_at "w"
    · rename_i h
      obtain ⟨m, rfl⟩ := wholeM_int E h
      refine ⟨0, m, rfl, rfl, fun h1 => ?_, fun h1 => ?_⟩
      · wtm_at "w"
        intro _ g hg
        cases (show endP (PyData.int m) = some g from hg)
      · wtm_at "w"
        intro z
        cases z
    · intro z
      cases z
  | bool =>
    show DSs c [some (.r (.tb tab.D)), some (.r (.st l.D)), some (.r (.d (.tuple [.int i, .int j]))), some (.r (.d (.tuple [.str x, .str "bool", u.D]))), some (.r (.d d)), none] (_ :: _) _
    wtm_at "w"
    intro h g hg
    have hg : endP d = some g := hg
    cases d <;> first | (cases hg; done) | (cases h; done)
  | ref y n =>
    have hsh := Kind.shaped hl.ok hkd
    have hlit : SeqAt.shaped (.str "int") = true ∧ SeqAt.shaped (.str "bool") = true := ⟨by decide +kernel, by decide +kernel⟩
    have o1 : eqOk (.tuple [.str (rtag y), .str n]) (.str "int") = true := by
      simp only [eqOk]
      rw [show SeqAt.shaped (.tuple [.str (rtag y), .str n]) = true from hsh, hlit.1]
      simp
    have o2 : eqOk (.tuple [.str (rtag y), .str n]) (.str "bool") = true := by
      simp only [eqOk]
      rw [show SeqAt.shaped (.tuple [.str (rtag y), .str n]) = true from hsh, hlit.2]
      simp
    cases hp : endP d with
    | none =>
      show DSs c [some (.r (.tb tab.D)), some (.r (.st l.D)), some (.r (.d (.tuple [.int i, .int j]))), some (.r (.d (.tuple [.str x, .tuple [.str (rtag y), .str n], u.D]))), some (.r (.d d)), none] (_ :: _) _
      wtm_at "w"
      refine ⟨⟨d, hd⟩, rfl, fun w hw => ?_⟩
      obtain rfl : w = .d (.bool false) := hw.trans (by show W.d (.bool (endP d).isSome) = _; rw [hp]; rfl)
      wtm_at "w"
      exact fun z => by cases z
    | some g =>
      obtain rfl := endP_shape hp
      obtain ⟨a, b⟩ := g
      show DSs c [some (.r (.tb tab.D)), some (.r (.st l.D)), some (.r (.d (.tuple [.int i, .int j]))), some (.r (.d (.tuple [.str x, .tuple [.str (rtag y), .str n], u.D]))), some (.r (.d (.tuple [.str "end", .int a, .int b]))), none] (_ :: _) _
      wtm_at "w"
      refine ⟨⟨_, hd⟩, rfl, fun w hw => ?_⟩
      obtain rfl : w = .d (.bool true) := hw.trans (by show W.d (.bool (endP (.tuple [.str "end", .int a, .int b])).isSome) = _; rw [hp]; rfl)
      cases hmk : gt l.m (a, b) with
      | none =>
        have b5 : (!(lkp l.D.m (a, b)).isSome) = true := by rw [Lc.gt_m, hmk]; rfl
        wtm_at "w"
        exact fun z => by cases z
      | some mk =>
        have b5 : (!(lkp l.D.m (a, b)).isSome) = false := by rw [Lc.gt_m, hmk]; rfl
        obtain ⟨t, ht, hU⟩ := hl.t (a, b) (by rw [hmk]; simp)
        have x1 : ixW (.dt l.D.m) (.d (.tuple [.int a, .int b])) = some (.d (.str mk)) := ix_dt (by rw [Lc.gt_m, hmk]; rfl)
        have x2 : ixW (.dt l.D.t) (.d (.tuple [.int a, .int b])) = some (.d t.D) := ix_dt (by rw [Lc.gt_t, ht]; rfl)
        wtm_at "w"
        · rename_i h1 h2
          refine ⟨⟨tab, t, .ref y n, hU, (TU.kind hl.ok hkd rfl).1⟩, rfl, fun w hw => ?_⟩
          obtain ⟨bb, rfl⟩ := hw
          refine ⟨_, rfl, fun _ g hg => ?_⟩
          cases hg
          rw [eqv_str] at h2
          refine ⟨by show gt l.m (a, b) = some "open"; rw [hmk, of_decide_eq_true h2]; rfl, fun e => ?_⟩
          rw [show PyData.eqv (.tuple [.int a, .int b]) (.tuple [.int i, .int j]) = decide ((a, b) = (i, j)) from pd_eqv (p := (a, b)) (q := (i, j)), decide_eq_true e] at h1
          cases h1
        all_goals
          intro z
          cases z
end
/-! ### _law_may_here -/
structure MhA where
  tab : Tab
  l : Lc
  k : Nat
  hl : LcOk tab k l
  ev : Ev
  i : Int
  j : Int
  hp : ev.atSide = some (i, j)
  hnd : ev.nm ≠ "drop"
  hmk : gt l.m (i, j) = some "open"
  hg : ev.gen tab
section
variable {P : Program} {w : World} {K : PySem.W.Frag} {mg : Str → Option Value} {base : Heap} {C : Addr} (E : Fs w K mg C)
include E
theorem ok__law_may_here : FnG P w K mg base "_law_may_here" 13 (SpD C (fun z : MhA => [.tb z.tab.D, .st z.l.D, .d z.ev.D, .d (pd (z.i, z.j))]) (fun z r => ∃ b, r = .d (.bool b) ∧ (b = true → Al z.tab z.l z.ev))) := by
  obtain ⟨f, fd, F, hm⟩ := E.d__law_may_here
  refine (st__law_may_here F (fun _ => rfl) fun c I z => ?_).g hm F.kp
  have ok := I.ok
  have hN := I.N
  have hG := I.G
  have hL := I.Lo
  have bi := I.bi E.bi
  have f1 := I.fn (sp := fun C => SpD C _ _) (ok__law_head E 3) (by omega)
  have f2 := I.fn (sp := fun C => SpD C _ _) (ok__law_row E) (by omega)
  have f3 := I.fn (sp := fun C => SpD C _ _) (ok__law_may_say E) (by omega)
  have f4 := I.fn (sp := fun C => SpD C _ _) (ok__law_like E) (by omega)
  obtain ⟨tab, l, k, hl, ev, i, j, hp, hnd, hmk, hg⟩ := z
  obtain ⟨t, ht, hU⟩ := hl.t (i, j) (by rw [hmk]; simp)
  have xt : ixW (.dt l.D.t) (.d (.tuple [.int i, .int j])) = some (.d t.D) := ix_dt (by rw [Lc.gt_t, ht]; rfl)
  have hb := hl.box (p := (i, j)) (by rw [hmk]; simp)
  have xb : ixW (.dt l.D.b) (.d (.tuple [.int i, .int j])) = some (.d (.list ((boxOf l (i, j)).map Msg.D))) := ix_dt (by rw [Lc.gt_b, hb]; rfl)
  obtain ⟨mq, hmq⟩ := Option.ne_none_iff_exists'.mp (hl.pa (i, j) (by rw [hmk]; simp))
  have hmq : gt l.m (i, 1 - j) = some mq := hmq
  have xq : ixW (.dt l.D.m) (.d (.tuple [.int i, .int (1 - j)])) = some (.d (.str mq)) := ix_dt (by rw [Lc.gt_m, hmq]; rfl)
  have hh := hU.toTA.non
  have hTU := hU.head
  have nope : ∀ {Q : Prop}, false = true → Q := fun z => by cases z
  have hbx := (hl.bx _ _ hb).2
  cases ev with
  | close i' j' =>
    obtain ⟨rfl, rfl⟩ := Prod.mk.inj (Option.some.inj hp)
    show DSs c [some (.r (.tb tab.D)), some (.r (.st l.D)), some (.r (.d (Ev.close i' j').D)), some (.r (.d (.tuple [.int i', .int j']))), none, none, none, none] (_ :: _) _
    wtm_at "w"
    refine ⟨⟨(tab, t), hU.toTA, hU.toTA.rk⟩, rfl, fun w hw => ?_⟩
    subst hw
    rcases tag_cases hh with hd | ⟨s, rs, hd⟩
    · simp only [hd]
      wtm_at "w"
      exact fun _ => hmk
    · simp only [hd]
      cases s <;> (
        wtm_at "w"
        exact fun _ => hmk)
  | told i' j' =>
    obtain ⟨rfl, rfl⟩ := Prod.mk.inj (Option.some.inj hp)
    show DSs c [some (.r (.tb tab.D)), some (.r (.st l.D)), some (.r (.d (Ev.told i' j').D)), some (.r (.d (.tuple [.int i', .int j']))), none, none, none, none] (_ :: _) _
    wtm_at "w"
    refine ⟨⟨(tab, t), hU.toTA, hU.toTA.rk⟩, rfl, fun w hw => ?_⟩
    subst hw
    rcases tag_cases hh with hd | ⟨s, rs, hd⟩
    · simp only [hd]
      wtm_at "w"
      exact nope
    · simp only [hd]
      cases s
      · wtm_at "w"
        · rename_i h
          intro e
          rw [eqv_str] at e
          refine ⟨hmk, ?_, ?_⟩
          · cases hbe : boxOf l (i', j') with
            | nil => rw [hb, hbe]
            | cons m r => rw [hbe] at h; cases h
          · rw [hmq, of_decide_eq_true e]
            rfl
        · exact nope
      · wtm_at "w"
        exact nope
  | say i' j' x d =>
    obtain ⟨rfl, rfl⟩ := Prod.mk.inj (Option.some.inj hp)
    show DSs c [some (.r (.tb tab.D)), some (.r (.st l.D)), some (.r (.d (Ev.say i' j' x d).D)), some (.r (.d (.tuple [.int i', .int j']))), none, none, none, none] (_ :: _) _
    wtm_at "w"
    refine ⟨⟨(tab, t), hU.toTA, hU.toTA.rk⟩, rfl, fun w hw => ?_⟩
    subst hw
    rcases tag_cases hh with hd | ⟨s, rs, hd⟩
    · simp only [hd]
      wtm_at "w"
      exact nope
    · simp only [hd]
      rw [hd] at hTU
      cases s
      · wtm_at "w"
        exact nope
      · wtm_at "w"
        refine ⟨⟨(.act true rs, x), rfl⟩, rfl, fun w hw => ?_⟩
        rcases e1 : rs.find x with _ | ⟨kd, u⟩
        · obtain rfl : w = .d .none := hw.trans (by show W.d (rowD x (rs.find x)) = _; rw [e1]; rfl)
          wtm_at "w"
          exact nope
        · obtain rfl : w = .d (.tuple [.str x, kd.D, u.D]) := hw.trans (by show W.d (rowD x (rs.find x)) = _; rw [e1]; rfl)
          wtm_at "w"
          refine ⟨⟨tab, l, k, hl, (i', j'), x, kd, u, (hTU.next e1).2, d, hg.2⟩, rfl, fun w hw => ?_⟩
          obtain ⟨bb, rfl, hbb⟩ := hw
          refine ⟨_, rfl, fun h => ⟨hmk, ⟨t, rs, kd, u, ht, hd, e1⟩, hg.2, hbb h⟩⟩
  | hear i' j' x d =>
    obtain ⟨rfl, rfl⟩ := Prod.mk.inj (Option.some.inj hp)
    show DSs c [some (.r (.tb tab.D)), some (.r (.st l.D)), some (.r (.d (Ev.hear i' j' x d).D)), some (.r (.d (.tuple [.int i', .int j']))), none, none, none, none] (_ :: _) _
    wtm_at "w"
    refine ⟨⟨(tab, t), hU.toTA, hU.toTA.rk⟩, rfl, fun w hw => ?_⟩
    subst hw
    rcases tag_cases hh with hd | ⟨s, rs, hd⟩
    · simp only [hd]
      wtm_at "w"
      exact nope
    · simp only [hd]
      rw [hd] at hTU
      cases s
      · wtm_at "w"
        refine ⟨⟨(.act false rs, x), rfl⟩, rfl, fun w hw => ?_⟩
        rcases e1 : rs.find x with _ | ⟨kd, u⟩
        · obtain rfl : w = .d .none := hw.trans (by show W.d (rowD x (rs.find x)) = _; rw [e1]; rfl)
          wtm_at "w"
          exact nope
        · obtain rfl : w = .d (.tuple [.str x, kd.D, u.D]) := hw.trans (by show W.d (rowD x (rs.find x)) = _; rw [e1]; rfl)
          cases hbe : boxOf l (i', j') with
          | nil =>
            rw [hbe] at xb
            wtm_at "w"
            exact nope
          | cons m r =>
            obtain ⟨ml, mp⟩ := m
            rw [hbe] at xb hbx
            have x0 : ixW (.d (.list (List.map Msg.D ((ml, mp) :: r)))) (.d (.int 0)) = some (.d (.tuple [.str ml, mp])) := ix_l0
            have b0 : decide (0 < ((List.map Msg.D ((ml, mp) :: r)).length : Int)) = true := by simp
            wtm_at "w"
            · rename_i h
              refine ⟨⟨(mp, d), (hbx _ List.mem_cons_self).1, hg.2⟩, rfl, fun w hw => ?_⟩
              obtain ⟨bb, rfl, hbb⟩ := hw
              refine ⟨_, rfl, fun h2 => ?_⟩
              have e2 : mp = d := hbb h2
              rw [eqv_str] at h
              have e3 := of_decide_eq_true h
              subst e2
              subst e3
              exact ⟨hmk, ⟨t, rs, kd, u, ht, hd, e1⟩, ⟨r, by rw [hb, hbe]⟩⟩
            · exact nope
      · wtm_at "w"
        exact nope
  | drop _ _ => exact absurd rfl hnd
  | _ => cases hp
end
/-! ### _law_may -/
/-- what may says True of -/
def AlW (tab : Tab) (l : Lc) : Ev → Prop
  | .opn _ _ _ _ nm => (tab.get nm).isSome = true
  | e => Al tab l e
theorem LcOk.appW {tab : Tab} {k : Nat} {l : Lc} (h : LcOk tab k l) {fl : Bool} {e : Ev} (a : AlW tab l e) : LcOk tab (k + 1) (l.app tab fl e) := by
  cases e with
  | opn _ _ n x nm => exact h.opn a
  | say i j x d => exact h.app (e := .say i j x d) a
  | hear i j x d => exact h.app (e := .hear i j x d) a
  | told i j => exact h.app (e := .told i j) a
  | close i j => exact h.app (e := .close i j) a
  | drop i j => exact h.app (e := .drop i j) a
  | become i j => exact h.app (e := .become i j) a
  | done i => exact h.app (e := .done i) a
  | fall i => exact h.app (e := .fall i) a
/-- events as the law draws them: some of wrong length -/
inductive GEv (tab : Tab) : PD → Prop
  | ev {e : Ev} : e.gen tab → GEv tab e.D
  | sh {a : Int} : GEv tab (.tuple [.str "become", .int a])
  | dn {a : Int} : GEv tab (.tuple [.str "done", .int a, .str "A"])
  | fl {a : Int} : GEv tab (.tuple [.str "fall", .int a, .str "A"])
structure MyA where
  tab : Tab
  l : Lc
  k : Nat
  hl : LcOk tab k l
  d : PD
  hd : GEv tab d
def partsL : List (Str × Int) := [("open", 5), ("say", 5), ("hear", 5), ("told", 3), ("close", 3), ("drop", 3), ("become", 3), ("done", 2), ("fall", 2)]
section
variable {P : Program} {w : World} {K : PySem.W.Frag} {mg : Str → Option Value} {base : Heap} {C : Addr} (E : Fs w K mg C)
include E
theorem ok__law_may : FnG P w K mg base "_law_may" 14 (SpD C (fun z : MyA => [.tb z.tab.D, .st z.l.D, .d z.d]) (fun z r => ∃ b, r = .d (.bool b) ∧ (b = true → ∃ ev : Ev, z.d = ev.D ∧ ev.gen z.tab ∧ AlW z.tab z.l ev))) := by
  obtain ⟨f, fd, F, hm⟩ := E.d__law_may
  refine (st__law_may F (fun _ => rfl) fun c I z => ?_).g hm F.kp
  have ok := I.ok
  have hN := I.N
  have hG := I.G
  have hL := I.Lo
  have bi := I.bi E.bi
  have f1 := I.fn (sp := fun C => SpD C _ _) (ok__law_running E) (by omega)
  have f2 := I.fn (sp := fun C => SpD C _ _) (ok__law_is_side E) (by omega)
  have f3 := I.fn (sp := fun C => SpD C _ _) (ok__law_may_open E) (by omega)
  have f4 := I.fn (sp := fun C => SpD C _ _) (ok__law_may_here E) (by omega)
  obtain ⟨tab, l, k, hl, d, hd⟩ := z
  have nope : ∀ {Q : Prop}, false = true → Q := fun z => by cases z
  have disp : ∀ {ks : List (Option Expr)} {vs : List Expr} {pos : Pos} {env : En} {Q : W → Prop}, Dsp ks vs partsL → Q (.tb (partsL.map fun p => (p.1, .int p.2))) → DE c env (.Dict ks vs pos) Q := fun h q => de_disp h (by decide) (by decide) (by decide +kernel) q
  show DSs c [some (.r (.tb tab.D)), some (.r (.st l.D)), some (.r (.d d)), none, none] (_ :: _) _
  refine dss_cons ?_
  with_reducible refine ds_asg ok hN (by wtm_at "k.mem") hL (by wtm_at "k.mem") ?_ (by intro X; with_unfolding_all rfl)
  with_reducible refine disp ?_ ?_
  · unfold partsL
    repeat (first | with_reducible exact Dsp.nil | with_reducible refine Dsp.cons ?_)
  refine ⟨_, by wtm_at "k.up", ?_⟩
  generalize hpt : (W.tb (partsL.map fun p => (p.1, .int p.2))) = pt
  cases hoe : l.o.isEmpty with
  | true =>
    have b2 : (!l.D.o.isEmpty) = false := by show (!(l.o.map pd).isEmpty) = false; rw [List.isEmpty_iff.mp hoe]; rfl
    have b3 : decide (0 < (l.D.o.length : Int)) = false := by show decide (0 < ((l.o.map pd).length : Int)) = false; rw [List.isEmpty_iff.mp hoe]; rfl
    cases hd with
    | sh =>
      obtain ⟨p1, p2⟩ : inW (.d (.str "become")) pt = some true ∧ ixW pt (.d (.str "become")) = some (.d (.int 3)) := by rw [← hpt]; exact ⟨rfl, rfl⟩
      wtm_at "w"
      exact nope
    | dn =>
      obtain ⟨p1, p2⟩ : inW (.d (.str "done")) pt = some true ∧ ixW pt (.d (.str "done")) = some (.d (.int 2)) := by rw [← hpt]; exact ⟨rfl, rfl⟩
      wtm_at "w"
      exact nope
    | fl =>
      obtain ⟨p1, p2⟩ : inW (.d (.str "fall")) pt = some true ∧ ixW pt (.d (.str "fall")) = some (.d (.int 2)) := by rw [← hpt]; exact ⟨rfl, rfl⟩
      wtm_at "w"
      exact nope
    | @ev e hg =>
      cases e with
      | opn a cc n x nm =>
        obtain ⟨p1, p2⟩ : inW (.d (.str "open")) pt = some true ∧ ixW pt (.d (.str "open")) = some (.d (.int 5)) := by rw [← hpt]; exact ⟨rfl, rfl⟩
        show DSs c [some (.r (.tb tab.D)), some (.r (.st l.D)), some (.r (.d (.tuple [.str "open", .int a, .int cc, .int n, .tuple [.str (rtag x), .str nm]]))), some (.r pt), none] _ _
        wtm_at "w"
        refine ⟨(tab, l, a, cc, n, x, nm), rfl, fun w hw => ?_⟩
        obtain ⟨bb, rfl⟩ := hw
        exact ⟨_, rfl, fun _ => ⟨.opn a cc n x nm, rfl, hg, hg⟩⟩
      | become a x =>
        obtain ⟨p1, p2⟩ : inW (.d (.str "become")) pt = some true ∧ ixW pt (.d (.str "become")) = some (.d (.int 3)) := by rw [← hpt]; exact ⟨rfl, rfl⟩
        show DSs c [some (.r (.tb tab.D)), some (.r (.st l.D)), some (.r (.d (.tuple [.str "become", .int a, x]))), some (.r pt), none] _ _
        wtm_at "w"
        refine ⟨(l, a), rfl, fun w hw => ?_⟩
        obtain ⟨bb, rfl, hbb⟩ := hw
        exact ⟨_, rfl, fun h => ⟨.become a x, rfl, hg, hbb h⟩⟩
      | done a =>
        obtain ⟨p1, p2⟩ : inW (.d (.str "done")) pt = some true ∧ ixW pt (.d (.str "done")) = some (.d (.int 2)) := by rw [← hpt]; exact ⟨rfl, rfl⟩
        show DSs c [some (.r (.tb tab.D)), some (.r (.st l.D)), some (.r (.d (.tuple [.str "done", .int a]))), some (.r pt), none] _ _
        wtm_at "w"
        refine ⟨(l, a), rfl, fun w hw => ?_⟩
        obtain ⟨bb, rfl, hbb⟩ := hw
        exact ⟨_, rfl, fun h => ⟨.done a, rfl, hg, hbb h⟩⟩
      | fall a =>
        obtain ⟨p1, p2⟩ : inW (.d (.str "fall")) pt = some true ∧ ixW pt (.d (.str "fall")) = some (.d (.int 2)) := by rw [← hpt]; exact ⟨rfl, rfl⟩
        show DSs c [some (.r (.tb tab.D)), some (.r (.st l.D)), some (.r (.d (.tuple [.str "fall", .int a]))), some (.r pt), none] _ _
        wtm_at "w"
        refine ⟨(l, a), rfl, fun w hw => ?_⟩
        obtain ⟨bb, rfl, hbb⟩ := hw
        exact ⟨_, rfl, fun h => ⟨.fall a, rfl, hg, hbb h⟩⟩
      | say i j x d =>
        obtain ⟨p1, p2⟩ : inW (.d (.str "say")) pt = some true ∧ ixW pt (.d (.str "say")) = some (.d (.int 5)) := by rw [← hpt]; exact ⟨rfl, rfl⟩
        show DSs c [some (.r (.tb tab.D)), some (.r (.st l.D)), some (.r (.d (.tuple [.str "say", .int i, .int j, .str x, d]))), some (.r pt), none] _ _
        wtm_at "w"
        refine ⟨(l, "say", i, j, [.str x, d]), rfl, fun w hw => ?_⟩
        cases hmk : gt l.m (i, j) with
        | none =>
          obtain rfl : w = .d (.bool false) := hw.trans (by show W.d (.bool (gt l.m (i, j)).isSome) = _; rw [hmk]; rfl)
          wtm_at "w"
          exact nope
        | some mk =>
          obtain rfl : w = .d (.bool true) := hw.trans (by show W.d (.bool (gt l.m (i, j)).isSome) = _; rw [hmk]; rfl)
          have x1 : ixW (.dt l.D.m) (.d (.tuple [.int i, .int j])) = some (.d (.str mk)) := ix_dt (by rw [Lc.gt_m, hmk]; rfl)
          wtm_at "w"
          · rename_i h
            rw [eqv_str] at h
            have h := of_decide_eq_true h
            subst h
            refine ⟨⟨tab, l, k, hl, .say i j x d, i, j, rfl, (show ("say" : Str) ≠ "drop" by decide), hmk, hg⟩, rfl, fun w hw => ?_⟩
            obtain ⟨bb, rfl, hbb⟩ := hw
            exact ⟨_, rfl, fun h => ⟨.say i j x d, rfl, hg, hbb h⟩⟩
          · exact nope
      | hear i j x d =>
        obtain ⟨p1, p2⟩ : inW (.d (.str "hear")) pt = some true ∧ ixW pt (.d (.str "hear")) = some (.d (.int 5)) := by rw [← hpt]; exact ⟨rfl, rfl⟩
        show DSs c [some (.r (.tb tab.D)), some (.r (.st l.D)), some (.r (.d (.tuple [.str "hear", .int i, .int j, .str x, d]))), some (.r pt), none] _ _
        wtm_at "w"
        refine ⟨(l, "hear", i, j, [.str x, d]), rfl, fun w hw => ?_⟩
        cases hmk : gt l.m (i, j) with
        | none =>
          obtain rfl : w = .d (.bool false) := hw.trans (by show W.d (.bool (gt l.m (i, j)).isSome) = _; rw [hmk]; rfl)
          wtm_at "w"
          exact nope
        | some mk =>
          obtain rfl : w = .d (.bool true) := hw.trans (by show W.d (.bool (gt l.m (i, j)).isSome) = _; rw [hmk]; rfl)
          have x1 : ixW (.dt l.D.m) (.d (.tuple [.int i, .int j])) = some (.d (.str mk)) := ix_dt (by rw [Lc.gt_m, hmk]; rfl)
          wtm_at "w"
          · rename_i h
            rw [eqv_str] at h
            have h := of_decide_eq_true h
            subst h
            refine ⟨⟨tab, l, k, hl, .hear i j x d, i, j, rfl, (show ("hear" : Str) ≠ "drop" by decide), hmk, hg⟩, rfl, fun w hw => ?_⟩
            obtain ⟨bb, rfl, hbb⟩ := hw
            exact ⟨_, rfl, fun h => ⟨.hear i j x d, rfl, hg, hbb h⟩⟩
          · exact nope
      | told i j =>
        obtain ⟨p1, p2⟩ : inW (.d (.str "told")) pt = some true ∧ ixW pt (.d (.str "told")) = some (.d (.int 3)) := by rw [← hpt]; exact ⟨rfl, rfl⟩
        show DSs c [some (.r (.tb tab.D)), some (.r (.st l.D)), some (.r (.d (.tuple [.str "told", .int i, .int j]))), some (.r pt), none] _ _
        wtm_at "w"
        refine ⟨(l, "told", i, j, []), rfl, fun w hw => ?_⟩
        cases hmk : gt l.m (i, j) with
        | none =>
          obtain rfl : w = .d (.bool false) := hw.trans (by show W.d (.bool (gt l.m (i, j)).isSome) = _; rw [hmk]; rfl)
          wtm_at "w"
          exact nope
        | some mk =>
          obtain rfl : w = .d (.bool true) := hw.trans (by show W.d (.bool (gt l.m (i, j)).isSome) = _; rw [hmk]; rfl)
          have x1 : ixW (.dt l.D.m) (.d (.tuple [.int i, .int j])) = some (.d (.str mk)) := ix_dt (by rw [Lc.gt_m, hmk]; rfl)
          wtm_at "w"
          · rename_i h
            rw [eqv_str] at h
            have h := of_decide_eq_true h
            subst h
            refine ⟨⟨tab, l, k, hl, .told i j, i, j, rfl, (show ("told" : Str) ≠ "drop" by decide), hmk, hg⟩, rfl, fun w hw => ?_⟩
            obtain ⟨bb, rfl, hbb⟩ := hw
            exact ⟨_, rfl, fun h => ⟨.told i j, rfl, hg, hbb h⟩⟩
          · exact nope
      | close i j =>
        obtain ⟨p1, p2⟩ : inW (.d (.str "close")) pt = some true ∧ ixW pt (.d (.str "close")) = some (.d (.int 3)) := by rw [← hpt]; exact ⟨rfl, rfl⟩
        show DSs c [some (.r (.tb tab.D)), some (.r (.st l.D)), some (.r (.d (.tuple [.str "close", .int i, .int j]))), some (.r pt), none] _ _
        wtm_at "w"
        refine ⟨(l, "close", i, j, []), rfl, fun w hw => ?_⟩
        cases hmk : gt l.m (i, j) with
        | none =>
          obtain rfl : w = .d (.bool false) := hw.trans (by show W.d (.bool (gt l.m (i, j)).isSome) = _; rw [hmk]; rfl)
          wtm_at "w"
          exact nope
        | some mk =>
          obtain rfl : w = .d (.bool true) := hw.trans (by show W.d (.bool (gt l.m (i, j)).isSome) = _; rw [hmk]; rfl)
          have x1 : ixW (.dt l.D.m) (.d (.tuple [.int i, .int j])) = some (.d (.str mk)) := ix_dt (by rw [Lc.gt_m, hmk]; rfl)
          wtm_at "w"
          · rename_i h
            rw [eqv_str] at h
            have h := of_decide_eq_true h
            subst h
            refine ⟨⟨tab, l, k, hl, .close i j, i, j, rfl, (show ("close" : Str) ≠ "drop" by decide), hmk, hg⟩, rfl, fun w hw => ?_⟩
            obtain ⟨bb, rfl, hbb⟩ := hw
            exact ⟨_, rfl, fun h => ⟨.close i j, rfl, hg, hbb h⟩⟩
          · exact nope
      | drop i j =>
        obtain ⟨p1, p2⟩ : inW (.d (.str "drop")) pt = some true ∧ ixW pt (.d (.str "drop")) = some (.d (.int 3)) := by rw [← hpt]; exact ⟨rfl, rfl⟩
        show DSs c [some (.r (.tb tab.D)), some (.r (.st l.D)), some (.r (.d (.tuple [.str "drop", .int i, .int j]))), some (.r pt), none] _ _
        wtm_at "w"
        refine ⟨(l, "drop", i, j, []), rfl, fun w hw => ?_⟩
        cases hmk : gt l.m (i, j) with
        | none =>
          obtain rfl : w = .d (.bool false) := hw.trans (by show W.d (.bool (gt l.m (i, j)).isSome) = _; rw [hmk]; rfl)
          wtm_at "w"
          exact nope
        | some mk =>
          obtain rfl : w = .d (.bool true) := hw.trans (by show W.d (.bool (gt l.m (i, j)).isSome) = _; rw [hmk]; rfl)
          have x1 : ixW (.dt l.D.m) (.d (.tuple [.int i, .int j])) = some (.d (.str mk)) := ix_dt (by rw [Lc.gt_m, hmk]; rfl)
          wtm_at "w"
          · rename_i h
            rw [eqv_str] at h
            have h := of_decide_eq_true h
            subst h
            exact fun _ => ⟨.drop i j, rfl, hg, .inl hmk⟩
          · exact nope
  | false =>
    have b2 : (!l.D.o.isEmpty) = true := by show (!(l.o.map pd).isEmpty) = true; cases h : l.o <;> first | rfl | (rw [h] at hoe; cases hoe)
    cases hd with
    | sh =>
      obtain ⟨p1, p2⟩ : inW (.d (.str "become")) pt = some true ∧ ixW pt (.d (.str "become")) = some (.d (.int 3)) := by rw [← hpt]; exact ⟨rfl, rfl⟩
      wtm_at "w"
      exact nope
    | dn =>
      obtain ⟨p1, p2⟩ : inW (.d (.str "done")) pt = some true ∧ ixW pt (.d (.str "done")) = some (.d (.int 2)) := by rw [← hpt]; exact ⟨rfl, rfl⟩
      wtm_at "w"
      exact nope
    | fl =>
      obtain ⟨p1, p2⟩ : inW (.d (.str "fall")) pt = some true ∧ ixW pt (.d (.str "fall")) = some (.d (.int 2)) := by rw [← hpt]; exact ⟨rfl, rfl⟩
      wtm_at "w"
      exact nope
    | @ev e hg =>
      cases e with
      | drop i j =>
        obtain ⟨p1, p2⟩ : inW (.d (.str "drop")) pt = some true ∧ ixW pt (.d (.str "drop")) = some (.d (.int 3)) := by rw [← hpt]; exact ⟨rfl, rfl⟩
        show DSs c [some (.r (.tb tab.D)), some (.r (.st l.D)), some (.r (.d (.tuple [.str "drop", .int i, .int j]))), some (.r pt), none] _ _
        obtain ⟨p, os, hoc⟩ : ∃ p os, l.o = p :: os := by
          cases h : l.o with
          | nil => rw [h] at hoe; cases hoe
          | cons p os => exact ⟨p, os, rfl⟩
        have b3 : decide (0 < (l.D.o.length : Int)) = true := by show decide (0 < ((l.o.map pd).length : Int)) = true; rw [hoc]; simp
        have x0 : ixW (.d (.list l.D.o)) (.d (.int 0)) = some (.d (pd p)) := by show ixW (.d (.list (l.o.map pd))) _ = _; rw [hoc]; exact ix_l0
        have o1 : eqOk (pd p) (.tuple [.int i, .int j]) = true := rfl
        have hpe : PyData.eqv (pd p) (.tuple [.int i, .int j]) = decide (p = (i, j)) := pd_eqv (q := (i, j))
        wtm_at "w"
        refine ⟨(l, "drop", i, j, []), rfl, fun w hw => ?_⟩
        cases hmk : gt l.m (i, j) with
        | none =>
          obtain rfl : w = .d (.bool false) := hw.trans (by show W.d (.bool (gt l.m (i, j)).isSome) = _; rw [hmk]; rfl)
          wtm_at "w"
          exact nope
        | some mk =>
          obtain rfl : w = .d (.bool true) := hw.trans (by show W.d (.bool (gt l.m (i, j)).isSome) = _; rw [hmk]; rfl)
          have x1 : ixW (.dt l.D.m) (.d (.tuple [.int i, .int j])) = some (.d (.str mk)) := ix_dt (by rw [Lc.gt_m, hmk]; rfl)
          wtm_at "w"
          · rename_i h
            rw [eqv_str] at h
            have h := of_decide_eq_true h
            subst h
            exact fun _ => ⟨.drop i j, rfl, hg, .inl hmk⟩
          · intro h
            rw [hpe] at h
            have h := of_decide_eq_true h
            exact ⟨.drop i j, rfl, hg, .inr ⟨by rw [hmk]; simp, by rw [hoc, h]; rfl⟩⟩
      | opn a cc n x nm =>
        obtain ⟨p1, p2⟩ : inW (.d (.str "open")) pt = some true ∧ ixW pt (.d (.str "open")) = some (.d (.int 5)) := by rw [← hpt]; exact ⟨rfl, rfl⟩
        show DSs c [some (.r (.tb tab.D)), some (.r (.st l.D)), some (.r (.d (.tuple [.str "open", .int a, .int cc, .int n, .tuple [.str (rtag x), .str nm]]))), some (.r pt), none] _ _
        wtm_at "w"
        exact nope
      | become a x =>
        obtain ⟨p1, p2⟩ : inW (.d (.str "become")) pt = some true ∧ ixW pt (.d (.str "become")) = some (.d (.int 3)) := by rw [← hpt]; exact ⟨rfl, rfl⟩
        show DSs c [some (.r (.tb tab.D)), some (.r (.st l.D)), some (.r (.d (.tuple [.str "become", .int a, x]))), some (.r pt), none] _ _
        wtm_at "w"
        exact nope
      | done a =>
        obtain ⟨p1, p2⟩ : inW (.d (.str "done")) pt = some true ∧ ixW pt (.d (.str "done")) = some (.d (.int 2)) := by rw [← hpt]; exact ⟨rfl, rfl⟩
        show DSs c [some (.r (.tb tab.D)), some (.r (.st l.D)), some (.r (.d (.tuple [.str "done", .int a]))), some (.r pt), none] _ _
        wtm_at "w"
        exact nope
      | fall a =>
        obtain ⟨p1, p2⟩ : inW (.d (.str "fall")) pt = some true ∧ ixW pt (.d (.str "fall")) = some (.d (.int 2)) := by rw [← hpt]; exact ⟨rfl, rfl⟩
        show DSs c [some (.r (.tb tab.D)), some (.r (.st l.D)), some (.r (.d (.tuple [.str "fall", .int a]))), some (.r pt), none] _ _
        wtm_at "w"
        exact nope
      | say i j x d =>
        obtain ⟨p1, p2⟩ : inW (.d (.str "say")) pt = some true ∧ ixW pt (.d (.str "say")) = some (.d (.int 5)) := by rw [← hpt]; exact ⟨rfl, rfl⟩
        show DSs c [some (.r (.tb tab.D)), some (.r (.st l.D)), some (.r (.d (.tuple [.str "say", .int i, .int j, .str x, d]))), some (.r pt), none] _ _
        wtm_at "w"
        exact nope
      | hear i j x d =>
        obtain ⟨p1, p2⟩ : inW (.d (.str "hear")) pt = some true ∧ ixW pt (.d (.str "hear")) = some (.d (.int 5)) := by rw [← hpt]; exact ⟨rfl, rfl⟩
        show DSs c [some (.r (.tb tab.D)), some (.r (.st l.D)), some (.r (.d (.tuple [.str "hear", .int i, .int j, .str x, d]))), some (.r pt), none] _ _
        wtm_at "w"
        exact nope
      | told i j =>
        obtain ⟨p1, p2⟩ : inW (.d (.str "told")) pt = some true ∧ ixW pt (.d (.str "told")) = some (.d (.int 3)) := by rw [← hpt]; exact ⟨rfl, rfl⟩
        show DSs c [some (.r (.tb tab.D)), some (.r (.st l.D)), some (.r (.d (.tuple [.str "told", .int i, .int j]))), some (.r pt), none] _ _
        wtm_at "w"
        exact nope
      | close i j =>
        obtain ⟨p1, p2⟩ : inW (.d (.str "close")) pt = some true ∧ ixW pt (.d (.str "close")) = some (.d (.int 3)) := by rw [← hpt]; exact ⟨rfl, rfl⟩
        show DSs c [some (.r (.tb tab.D)), some (.r (.st l.D)), some (.r (.d (.tuple [.str "close", .int i, .int j]))), some (.r pt), none] _ _
        wtm_at "w"
        exact nope
end
/-! ### the law's changes -/
structure LsA where
  l : Lc
  p : Pl
  k : Str
  hb : gt l.b p = some (boxOf l p)
  hx : ∀ m ∈ boxOf l p, payB m.2 = true
  hl : (boxOf l p).length ≤ 1000
  ho : l.o.length ≤ 100000
  sz : Sz l
structure LmA where
  tab : Tab
  l : Lc
  k : Nat
  hl : LcOk tab k l
  hk : k ≤ 100
  ev : Ev
  p : Pl
  hp : ev.atSide = some p
  hm : ev.nm = "say" ∨ ev.nm = "hear"
  al : Al tab l ev
theorem DS.nxI {c : Ctx} {env : En} {st : Stmt} {κ : Kt} {Q : En → Prop} (h : DS c env st { κ with nx := Q }) (i : ∀ e, Q e → κ.nx e) : DS c env st κ := fun X hX B Z H S fp σ E D k => h X hX B Z H S fp σ E D ⟨fun env H' S' fp σ hq => k.nx env H' S' fp σ (i env hq), k.rt, k.rl, k.bk, k.ct⟩
theorem ostE {A : Ad} {co co' : Co} {r : En} (h : co = co') : (some (.ost A co) :: r : En) = some (.ost A co') :: r := by rw [h]
section
variable {P : Program} {w : World} {K : PySem.W.Frag} {mg : Str → Option Value} {base : Heap} {C : Addr} (E : Fs w K mg C)
include E
theorem ok__law_leave : FnG P w K mg base "_law_leave" 4 (SpM C (fun _ : LsA => []) (fun z => [.d (pd z.p), .d (.str z.k)]) (fun z => (.st, z.l.D)) (fun z k' co' => k' = .st ∧ co' = (z.l.leave z.p z.k).D)) := by
  obtain ⟨f, fd, F, hm⟩ := E.d__law_leave
  refine (st__law_leave F (fun _ => ⟨rfl, rfl⟩) fun c I z A => ?_).g hm F.kp
  have ok := I.ok
  have hN := I.N
  have hG := I.G
  have hL := I.Lo
  have bi := I.bi E.bi
  have f1 := I.fn (sp := fun C => SpD C _ _) (ok__law_end E) (by omega)
  obtain ⟨l, ⟨i, j⟩, mk, hb, hx, hl, ho, ⟨z1, z2, z3, z4, z5⟩⟩ := z
  have hbx : lkp l.D.b (i, j) = some (.list ((boxOf l (i, j)).map Msg.D)) := by rw [Lc.gt_b, hb]; rfl
  have rest : ∀ (A : Ad) (q3 : Option Slot) (o : List Pl), o.length ≤ 100000 → o = (if l.o.head? = some (i, j) then l.o.tail else l.o) → DSs c [some (.ost A ⟨l.D.t, l.D.m, l.D.b, l.D.f, o.map pd⟩), some (.r (.d (.tuple [.int i, .int j]))), some (.r (.d (.str mk))), none] ((defBody s__law_leave).drop 1) ⟨endM 0 A.a (fun k' co' => k' = .st ∧ co' = (l.leave (i, j) mk).D), fun r env => r = .d .none ∧ endM 0 A.a (fun k' co' => k' = .st ∧ co' = (l.leave (i, j) mk).D) env, fun _ _ => False, fun _ => False, fun _ => False⟩ := by
    intro A q3 o hol ho2
    show DSs c _ (_ :: _) _
    have y4 : l.D.f.length < 1000000 := z4
    wtm_at "m"
    refine ds_forB ok hN .st LkO.z (dp_st ok .b hN LkO.z rfl) ?_
    wtm_at "m"
    refine ⟨_, hbx, fun rest env => ∃ (ms dn : List Msg) (q3 : Option Slot), rest = ms.map Msg.D ∧ boxOf l (i, j) = dn ++ ms ∧ env = [some (.ost A ⟨l.D.t, pt l.D.m (i, j) (.str mk), l.D.b, l.D.f, (o ++ endsM dn).map pd⟩), some (.r (.d (.tuple [.int i, .int j]))), some (.r (.d (.str mk))), q3], ⟨_, [], none, rfl, rfl, ostE (Co.eq rfl rfl rfl rfl (by show o.map pd = (o ++ endsM []).map pd; simp [endsM]))⟩, ?_, ?_, ?_⟩
    · rintro rest env1 ⟨ms, dn, q3, e1, e2, rfl⟩
      exact ⟨.st, _, LkO.z, rfl⟩
    · rintro d rest env1 _ ⟨ms, dn, q3, e1, e2, rfl⟩
      cases ms with
      | nil => cases e1
      | cons m ms =>
        cases e1
        have hmem : m ∈ boxOf l (i, j) := by rw [e2]; simp
        have hpm := hx m hmem
        obtain ⟨ml, mp⟩ := m
        have hdn : dn.length ≤ 1000 := by
          have := congrArg List.length e2
          rw [List.length_append] at this
          omega
        have hlo : ((o ++ endsM dn).map pd).length < 1000000 := by
          have : (endsM dn).length ≤ dn.length := List.length_filterMap_le _ _
          rw [List.length_map, List.length_append]
          omega
        refine ⟨by simp [Msg.D, K49.imm, immAll, (payB_lay hpm).2.2], ?_⟩
        show DG c _ _ (.tuple [.str ml, mp]) _
        wtm_at "m"
        refine ⟨⟨mp, hpm⟩, rfl, fun w hw => ?_⟩
        cases hE : endP mp with
        | none =>
          obtain rfl : w = .d (.bool false) := hw.trans (by show W.d (.bool (endP mp).isSome) = _; rw [hE]; rfl)
          wtm_at "m"
          exact ⟨ms, dn ++ [(ml, mp)], some (.r (.d (.tuple [.str ml, mp]))), rfl, by rw [e2]; simp, ostE (Co.eq rfl rfl rfl rfl (by rw [endsM_app, endsM_one, hE]; simp))⟩
        | some g =>
          obtain rfl : w = .d (.bool true) := hw.trans (by show W.d (.bool (endP mp).isSome) = _; rw [hE]; rfl)
          obtain rfl := endP_shape hE
          obtain ⟨a, b⟩ := g
          wtm_at "m"
          exact ⟨ms, dn ++ [(ml, .tuple [.str "end", .int a, .int b])], some (.r (.d (.tuple [.str ml, .tuple [.str "end", .int a, .int b]]))), rfl, by rw [e2]; simp, ostE (Co.eq rfl rfl rfl rfl (by rw [endsM_app, endsM_one, hE]; simp [Co.app, pd]))⟩
    · rintro env1 ⟨ms, dn, q3, e1, e2, rfl⟩
      cases ms with
      | cons m ms => cases e1
      | nil =>
        rw [List.append_nil] at e2
        wtm_at "m"
        refine endM_st0 rfl ⟨rfl, Co.eq rfl (pt_mapv PyData.str (i, j) mk l.m) (pt_mapv boxD (i, j) [] l.b) rfl ?_⟩
        show (o ++ endsM dn).map pd = ((if l.o.head? = some (i, j) then l.o.tail else l.o) ++ endsM (boxOf l (i, j))).map pd
        rw [ho2, e2]
  show DSs c [some (.ost A l.D), some (.r (.d (.tuple [.int i, .int j]))), some (.r (.d (.str mk))), none] (_ :: _) _
  refine dss_cons (DS.nxI (Q := fun e => ∃ (A' : Ad) (o : List Pl), A'.a = A.a ∧ o.length ≤ 100000 ∧ o = (if l.o.head? = some (i, j) then l.o.tail else l.o) ∧ e = [some (.ost A' ⟨l.D.t, l.D.m, l.D.b, l.D.f, o.map pd⟩), some (.r (.d (.tuple [.int i, .int j]))), some (.r (.d (.str mk))), none]) ?_ ?_)
  · cases hoc : l.o with
    | nil =>
      have b1 : (!l.D.o.isEmpty) = false := by show (!(l.o.map pd).isEmpty) = false; rw [hoc]; rfl
      wtm_at "m"
      exact ⟨A, [], rfl, by simp, by simp, ostE (Co.eq rfl rfl rfl rfl (by show l.o.map pd = [].map pd; rw [hoc]))⟩
    | cons p os =>
      have b1 : (!l.D.o.isEmpty) = true := by show (!(l.o.map pd).isEmpty) = true; rw [hoc]; rfl
      have ho0 : ixW (.d (.list l.D.o)) (.d (.int 0)) = some (.d (pd p)) := by show ixW (.d (.list (l.o.map pd))) _ = _; rw [hoc]; exact ix_l0
      have o1 : eqOk (pd p) (.tuple [.int i, .int j]) = true := rfl
      have hcut : cutD l.D.o (some 1) none = os.map pd := by show cutD (l.o.map pd) _ _ = _; rw [hoc]; exact cut_tail
      rw [hoc] at ho
      simp only [List.length_cons] at ho
      wtm_at "m"
      · rename_i h
        rw [show PyData.eqv (pd p) (.tuple [.int i, .int j]) = decide (p = (i, j)) from pd_eqv (q := (i, j))] at h
        have h := of_decide_eq_true h
        rw [hcut]
        refine ⟨pl_imm, ?_⟩
        wtm_at "m"
        rename_i lx
        exact ⟨{ A with o := lx }, os, rfl, by omega, by rw [h]; simp, rfl⟩
      · rename_i h
        rw [show PyData.eqv (pd p) (.tuple [.int i, .int j]) = decide (p = (i, j)) from pd_eqv (q := (i, j))] at h
        have h := of_decide_eq_false h
        exact ⟨A, p :: os, rfl, by simp only [List.length_cons]; omega, by simp [h], ostE (Co.eq rfl rfl rfl rfl (by show l.o.map pd = (p :: os).map pd; rw [hoc]))⟩
  · rintro e ⟨A', o, hA, h1, h2, rfl⟩
    have := rest A' none o h1 h2
    rw [hA] at this
    exact this
end
/-! ### _law_message, _law_do -/
theorem in_markL {mk : Str} : inW (.d (.str mk)) (.d (.list [.str "open", .str "away"])) = some (decide (mk = "open") || decide (mk = "away")) := in_mark
section
variable {P : Program} {w : World} {K : PySem.W.Frag} {mg : Str → Option Value} {base : Heap} {C : Addr} (E : Fs w K mg C)
include E
theorem ok__law_message : FnG P w K mg base "_law_message" 9 (SpM C (fun z : LmA => [.tb z.tab.D]) (fun z => [.d z.ev.D, .d (pd z.p)]) (fun z => (.st, z.l.D)) (fun z k' co' => k' = .st ∧ co' = (z.l.app z.tab true z.ev).D)) := by
  obtain ⟨f, fd, F, hm⟩ := E.d__law_message
  refine (st__law_message F (fun _ => ⟨rfl, rfl⟩) fun c I z A => ?_).g hm F.kp
  have ok := I.ok
  have hN := I.N
  have hG := I.G
  have hL := I.Lo
  have bi := I.bi E.bi
  have f1 := I.fn (sp := fun C => SpD C _ _) (ok__law_head E 3) (by omega)
  have f2 := I.fn (sp := fun C => SpD C _ _) (ok__law_row E) (by omega)
  have f3 := I.fn (sp := fun C => SpD C _ _) (ok__law_end E) (by omega)
  obtain ⟨tab, l, k, hl, hk, ev, ⟨i, j⟩, hp, hmm, al⟩ := z
  have hsz := hl.sz hk
  obtain ⟨l1, l2, l3, l4, l5⟩ := hl.small hk
  obtain ⟨t1, t2, t3, t4, t5⟩ := id hsz
  cases ev with
  | say i' j' x d =>
    obtain ⟨rfl, rfl⟩ := Prod.mk.inj (Option.some.inj hp)
    obtain ⟨t, rs, kd, u, r1, r2, r3⟩ := al.row
    have hmp : gt l.m (i', j') ≠ none := some_ne al.here
    obtain ⟨hnx, hTU, hkd⟩ := hl.next r1 hmp r2 r3
    obtain ⟨t', e1, e2⟩ := hl.t _ hmp
    rw [r1] at e1; cases e1
    have hix : ixW (.dt l.D.t) (.d (.tuple [.int i', .int j'])) = some (.d t.D) := ix_dt (by rw [Lc.gt_t, r1]; rfl)
    have himm : immW (.d (.tuple [.str x, kd.D, u.D])) = true := by
      show imm _ = true
      have : imm kd.D = true := by cases kd <;> simp [Kind.D, K49.imm, immAll]
      simp [K49.imm, immAll, this, Talk.imm u]
    show DSs c [some (.r (.tb tab.D)), some (.ost A l.D), some (.r (.d (.tuple [.str "say", .int i', .int j', .str x, d]))), some (.r (.d (.tuple [.int i', .int j']))), none, none, none, none] (_ :: _) _
    wtm_at "m"
    refine ⟨⟨(tab, t), e2.toTA, e2.toTA.rk⟩, rfl, fun w hw => ?_⟩
    obtain rfl : w = .d (Talk.act true rs).D := hw.trans (congrArg (fun t : Talk => W.d t.D) r2)
    wtm_at "m"
    refine ⟨⟨(.act true rs, x), rfl⟩, rfl, fun w hw => ?_⟩
    obtain rfl : w = .d (.tuple [.str x, kd.D, u.D]) := hw.trans (by show W.d (rowD x (rs.find x)) = _; rw [r3]; rfl)
    obtain ⟨mq, hmq⟩ := Option.ne_none_iff_exists'.mp (hl.pa _ hmp)
    have hmq : gt l.m (i', 1 - j') = some mq := hmq
    have hxq : ixW (.dt l.D.m) (.d (.tuple [.int i', .int (1 - j')])) = some (.d (.str mq)) := ix_dt (by rw [Lc.gt_m, hmq]; rfl)
    have hbq := hl.box (hl.pa _ hmp)
    have hbx : lkp l.D.b (i', 1 - j') = some (.list ((boxOf l (i', 1 - j')).map Msg.D)) := by rw [Lc.gt_b, show gt l.b (i', 1 - j') = some (boxOf l (i', 1 - j')) from hbq]; rfl
    have hbl := (hl.bx _ _ hbq).1
    have hin := in_markL (mk := mq)
    have htk : (decide (mq = "open") || decide (mq = "away")) = takes l (i', 1 - j') := by
      unfold takes
      rw [hmq]
      simp
    rw [htk] at hin
    have himm2 : imm (.tuple [.str x, d]) = true := by simp [K49.imm, immAll, (payB_lay al.pay).2.2]
    have hlen : ((boxOf l (i', 1 - j')).map Msg.D).length < 1000000 := by
      rw [List.length_map]
      have : (boxOf l (i', 1 - j')).length ≤ k := hbl
      omega
    have u1 : ∀ d', (l.D.put .t (i', j') d').t.length < 1000000 := fun d' => by
      have := pt_len (r := l.D.t) (k := (i', j')) (d := d')
      show (pt l.D.t (i', j') d').length < _
      have : l.D.t.length ≤ 200 := by rw [Lc.D_t, List.length_map]; exact l1
      omega
    have em1 : endP d = none → l.D.m = (l.say (i', j') x d u).D.m := fun h => by
      show _ = (markM l.m d "away").map fun p => (p.1, PyData.str p.2)
      simp only [markM, h]
      rfl
    have em2 : ∀ g, endP d = some g → pt l.D.m g (.str "away") = (l.say (i', j') x d u).D.m := fun g h => by
      show pt (l.m.map fun p => (p.1, PyData.str p.2)) g (.str "away") = (markM l.m d "away").map fun p => (p.1, PyData.str p.2)
      rw [pt_mapv]
      simp only [markM, h]
    have et := (pt_mapv Talk.D (i', j') u l.t)
    wtm_at "m"
    refine ⟨⟨d, al.pay⟩, rfl, fun w hw => ?_⟩
    cases hT : takes l (i', 1 - j') with
    | true =>
      rw [hT] at hin
      have eb : pt l.D.b (i', 1 - j') (.list ((boxOf l (i', 1 - j')).map Msg.D ++ [.tuple [.str x, d]])) = (l.say (i', j') x d u).D.b := by
        show pt (l.b.map fun p => (p.1, boxD p.2)) (i', 1 - j') _ = (if takes l (oth (i', j')) then pt l.b (oth (i', j')) (boxOf l (oth (i', j')) ++ [(x, d)]) else l.b).map fun p => (p.1, boxD p.2)
        rw [show takes l (oth (i', j')) = true from hT, if_pos rfl, ← pt_mapv]
        show _ = pt _ _ (PyData.list ((boxOf l (oth (i', j')) ++ [(x, d)]).map Msg.D))
        rw [List.map_append]
        rfl
      have eo : l.D.o = (l.say (i', j') x d u).D.o := by
        show l.o.map pd = (if takes l (oth (i', j')) then l.o else l.o ++ (endP d).toList).map pd
        rw [show takes l (oth (i', j')) = true from hT, if_pos rfl]
      cases hE : endP d with
      | none =>
        obtain rfl : w = .d (.bool false) := hw.trans (by show W.d (.bool (endP d).isSome) = _; rw [hE]; rfl)
        wtm_at "m"
        refine ⟨_, hxq, ?_⟩
        wtm_at "m"
        refine ⟨_, hbx, ?_⟩
        wtm_at "m"
        refine ⟨⟨d, al.pay⟩, rfl, fun w hw => ?_⟩
        obtain rfl : w = .d (.bool false) := hw.trans (by show W.d (.bool (endP d).isSome) = _; rw [hE]; rfl)
        wtm_at "m"
        refine endM_st1 rfl ⟨rfl, ?_⟩
        show _ = (l.say (i', j') x d (nextT tab l (i', j') x)).D
        rw [hnx]
        exact Co.eq et (em1 hE) eb rfl eo
      | some g =>
        have em := em2 g hE
        obtain rfl : w = .d (.bool true) := hw.trans (by show W.d (.bool (endP d).isSome) = _; rw [hE]; rfl)
        obtain rfl := endP_shape hE
        obtain ⟨a, b⟩ := g
        wtm_at "m"
        refine ⟨_, hxq, ?_⟩
        wtm_at "m"
        refine ⟨_, hbx, ?_⟩
        wtm_at "m"
        refine ⟨⟨_, al.pay⟩, rfl, fun w hw => ?_⟩
        obtain rfl : w = .d (.bool true) := hw
        wtm_at "m"
        refine ⟨⟨u1 _, t2⟩, ?_⟩
        wtm_at "m"
        refine endM_st1 rfl ⟨rfl, ?_⟩
        show _ = (l.say (i', j') x _ (nextT tab l (i', j') x)).D
        rw [hnx]
        exact Co.eq et em eb rfl eo
    | false =>
      rw [hT] at hin
      have eb : l.D.b = (l.say (i', j') x d u).D.b := by
        show (l.b.map fun p => (p.1, boxD p.2)) = (if takes l (oth (i', j')) then pt l.b (oth (i', j')) (boxOf l (oth (i', j')) ++ [(x, d)]) else l.b).map fun p => (p.1, boxD p.2)
        rw [show takes l (oth (i', j')) = false from hT, if_neg (by decide)]
      have eo : (l.say (i', j') x d u).D.o = l.D.o ++ ((endP d).toList).map pd := by
        show (if takes l (oth (i', j')) then l.o else l.o ++ (endP d).toList).map pd = _
        rw [show takes l (oth (i', j')) = false from hT, if_neg (by decide), List.map_append]
        rfl
      cases hE : endP d with
      | none =>
        obtain rfl : w = .d (.bool false) := hw.trans (by show W.d (.bool (endP d).isSome) = _; rw [hE]; rfl)
        wtm_at "m"
        refine ⟨_, hxq, ?_⟩
        wtm_at "m"
        refine ⟨⟨d, al.pay⟩, rfl, fun w hw => ?_⟩
        obtain rfl : w = .d (.bool false) := hw.trans (by show W.d (.bool (endP d).isSome) = _; rw [hE]; rfl)
        wtm_at "m"
        refine endM_st1 rfl ⟨rfl, ?_⟩
        show _ = (l.say (i', j') x d (nextT tab l (i', j') x)).D
        rw [hnx]
        exact Co.eq et (em1 hE) eb rfl (by rw [eo, hE]; simp; rfl)
      | some g =>
        have em := em2 g hE
        rw [hE] at eo
        obtain rfl : w = .d (.bool true) := hw.trans (by show W.d (.bool (endP d).isSome) = _; rw [hE]; rfl)
        obtain rfl := endP_shape hE
        obtain ⟨a, b⟩ := g
        wtm_at "m"
        refine ⟨_, hxq, ?_⟩
        wtm_at "m"
        refine ⟨⟨_, al.pay⟩, rfl, fun w hw => ?_⟩
        obtain rfl : w = .d (.bool true) := hw
        wtm_at "m"
        refine ⟨⟨u1 _, t2⟩, ?_⟩
        wtm_at "m"
        refine ⟨⟨t4, t5⟩, ?_⟩
        wtm_at "m"
        refine endM_st1 rfl ⟨rfl, ?_⟩
        show _ = (l.say (i', j') x _ (nextT tab l (i', j') x)).D
        rw [hnx]
        exact Co.eq et em eb rfl eo.symm
  | hear i' j' x d =>
    obtain ⟨rfl, rfl⟩ := Prod.mk.inj (Option.some.inj hp)
    obtain ⟨t, rs, kd, u, r1, r2, r3⟩ := al.row
    obtain ⟨r, hbe⟩ := al.box
    have hmp : gt l.m (i', j') ≠ none := some_ne al.here
    obtain ⟨hnx, hTU, hkd⟩ := hl.next r1 hmp r2 r3
    obtain ⟨t', e1, e2⟩ := hl.t _ hmp
    rw [r1] at e1; cases e1
    have hpm := fun m hm => ((hl.bx _ _ hbe).2 m hm).1
    have hpd : payB d = true := hpm (x, d) List.mem_cons_self
    have hix : ixW (.dt l.D.t) (.d (.tuple [.int i', .int j'])) = some (.d t.D) := ix_dt (by rw [Lc.gt_t, r1]; rfl)
    have himm : immW (.d (.tuple [.str x, kd.D, u.D])) = true := by
      show imm _ = true
      have : imm kd.D = true := by cases kd <;> simp [Kind.D, K49.imm, immAll]
      simp [K49.imm, immAll, this, Talk.imm u]
    have hbx : ixW (.dt l.D.b) (.d (.tuple [.int i', .int j'])) = some (.d (boxD ((x, d) :: r))) := ix_dt (by rw [Lc.gt_b, hbe]; rfl)
    have hcut : cutD (List.map Msg.D ((x, d) :: r)) (some 1) none = r.map Msg.D := cut_tail
    have hri : immAll (r.map Msg.D) = true := boxD_imm fun m hm => hpm m (List.mem_cons_of_mem _ hm)
    have hbq : boxOf l (i', j') = (x, d) :: r := boxOf_eq hbe
    have u1 : ∀ d', (l.D.put .t (i', j') d').t.length < 1000000 := fun d' => by
      have := pt_len (r := l.D.t) (k := (i', j')) (d := d')
      show (pt l.D.t (i', j') d').length < _
      have : l.D.t.length ≤ 200 := by rw [Lc.D_t, List.length_map]; exact l1
      omega
    have eb : pt l.D.b (i', j') (.list (r.map Msg.D)) = (l.hear (i', j') d u).D.b := by
      show pt (l.b.map fun p => (p.1, boxD p.2)) (i', j') (boxD r) = (pt l.b (i', j') (boxOf l (i', j')).tail).map fun p => (p.1, boxD p.2)
      rw [hbq, pt_mapv]
      rfl
    have et := (pt_mapv Talk.D (i', j') u l.t)
    show DSs c [some (.r (.tb tab.D)), some (.ost A l.D), some (.r (.d (.tuple [.str "hear", .int i', .int j', .str x, d]))), some (.r (.d (.tuple [.int i', .int j']))), none, none, none, none] (_ :: _) _
    wtm_at "m"
    refine ⟨⟨(tab, t), e2.toTA, e2.toTA.rk⟩, rfl, fun w hw => ?_⟩
    obtain rfl : w = .d (Talk.act false rs).D := hw.trans (congrArg (fun t : Talk => W.d t.D) r2)
    wtm_at "m"
    refine ⟨⟨(.act false rs, x), rfl⟩, rfl, fun w hw => ?_⟩
    obtain rfl : w = .d (.tuple [.str x, kd.D, u.D]) := hw.trans (by show W.d (rowD x (rs.find x)) = _; rw [r3]; rfl)
    wtm_at "m"
    refine ⟨⟨d, hpd⟩, rfl, fun w hw => ?_⟩
    cases hE : endP d with
    | none =>
      obtain rfl : w = .d (.bool false) := hw.trans (by show W.d (.bool (endP d).isSome) = _; rw [hE]; rfl)
      wtm_at "m"
      refine ⟨_, hbx, ?_⟩
      wtm_at "m"
      rw [hcut]
      refine ⟨hri, ?_⟩
      wtm_at "m"
      refine ⟨⟨d, hpd⟩, rfl, fun w hw => ?_⟩
      obtain rfl : w = .d (.bool false) := hw.trans (by show W.d (.bool (endP d).isSome) = _; rw [hE]; rfl)
      wtm_at "m"
      refine ⟨rfl, endM_st1 rfl ⟨rfl, ?_⟩⟩
      show _ = (l.hear (i', j') d (nextT tab l (i', j') x)).D
      rw [hnx]
      refine Co.eq et ?_ eb rfl rfl
      show l.D.m = (markM l.m d "open").map fun p => (p.1, PyData.str p.2)
      simp only [markM, hE]
      rfl
    | some g =>
      have em : pt l.D.m g (.str "open") = (l.hear (i', j') d u).D.m := by
        show pt (l.m.map fun p => (p.1, PyData.str p.2)) g (.str "open") = (markM l.m d "open").map fun p => (p.1, PyData.str p.2)
        rw [pt_mapv]
        simp only [markM, hE]
      obtain rfl : w = .d (.bool true) := hw.trans (by show W.d (.bool (endP d).isSome) = _; rw [hE]; rfl)
      obtain rfl := endP_shape hE
      obtain ⟨a, b⟩ := g
      wtm_at "m"
      refine ⟨_, hbx, ?_⟩
      wtm_at "m"
      rw [hcut]
      refine ⟨hri, ?_⟩
      wtm_at "m"
      refine ⟨⟨_, hpd⟩, rfl, fun w hw => ?_⟩
      obtain rfl : w = .d (.bool true) := hw
      wtm_at "m"
      refine ⟨⟨u1 _, t2⟩, ?_⟩
      wtm_at "m"
      refine ⟨rfl, endM_st1 rfl ⟨rfl, ?_⟩⟩
      show _ = (l.hear (i', j') _ (nextT tab l (i', j') x)).D
      rw [hnx]
      exact Co.eq et em eb rfl rfl
  | _ => rcases hmm with hmm | hmm <;> exact absurd hmm (by first | (show ¬ (("open" : Str) = _); decide) | (show ¬ (("told" : Str) = _); decide) | (show ¬ (("close" : Str) = _); decide) | (show ¬ (("drop" : Str) = _); decide) | (show ¬ (("become" : Str) = _); decide) | (show ¬ (("done" : Str) = _); decide) | (show ¬ (("fall" : Str) = _); decide))
end
/-! ### _law_do, _law_blank -/
structure LdA where
  tab : Tab
  l : Lc
  k : Nat
  hl : LcOk tab k l
  hk : k ≤ 100
  ev : Ev
  al : AlW tab l ev
section
variable {P : Program} {w : World} {K : PySem.W.Frag} {mg : Str → Option Value} {base : Heap} {C : Addr} (E : Fs w K mg C)
include E
theorem ok__law_do : FnG P w K mg base "_law_do" 10 (SpM C (fun z : LdA => [.tb z.tab.D]) (fun z => [.d z.ev.D]) (fun z => (.st, z.l.D)) (fun z k' co' => k' = .st ∧ co' = (z.l.app z.tab true z.ev).D)) := by
  obtain ⟨f, fd, F, hm⟩ := E.d__law_do
  refine (st__law_do F (fun _ => ⟨rfl, rfl⟩) fun c I z A => ?_).g hm F.kp
  have ok := I.ok
  have hN := I.N
  have hG := I.G
  have hL := I.Lo
  have bi := I.bi E.bi
  have f1 := I.fn (sp := fun C => SpD C _ _) (ok__law_dual E 1) (by omega)
  have f2 := I.fn (sp := fun C => SpM C _ _ _ _) (ok__law_leave E) (by omega)
  have f3 := I.fn (sp := fun C => SpM C _ _ _ _) (ok__law_message E) (by omega)
  obtain ⟨tab, l, k, hl, hk, ev, al⟩ := z
  have hsz := hl.sz hk
  obtain ⟨l1, l2, l3, l4, l5⟩ := hl.small hk
  obtain ⟨t1, t2, t3, t4, t5⟩ := id hsz
  have fin : ∀ {a : Int}, actP l.f a → ixN l.D.f.length a = some a.toNat := fun {a} ha => by
    have h0 : l.D.f.length = l.f.length := by show (l.f.map _).length = _; rw [List.length_map]
    rw [h0]
    obtain ⟨h1, h2⟩ := ha
    obtain ⟨m, rfl⟩ := Int.eq_ofNat_of_zero_le h1
    unfold ixN
    simp
    omega
  have fse : ∀ {a : Int}, (l.D.f.set a.toNat (.bool true)) = (l.fin a).f.map PyData.bool := fun {a} => by
    show (l.f.map PyData.bool).set a.toNat (PyData.bool true) = (l.f.set a.toNat true).map PyData.bool
    rw [List.map_set]
  have lv : ∀ (i j : Int) (mk : Str), gt l.m (i, j) ≠ none → ∃ z : LsA, z.l = l ∧ z.p = (i, j) ∧ z.k = mk := fun i j mk h => ⟨⟨l, (i, j), mk, hl.box h, fun m hm => ((hl.bx _ _ (hl.box h)).2 m hm).1, by have := (hl.bx _ _ (hl.box h)).1; omega, by omega, hsz⟩, rfl, rfl, rfl⟩
  cases ev with
  | done a =>
    show DSs c [some (.r (.tb tab.D)), some (.ost A l.D), some (.r (.d (.tuple [.str "done", .int a]))), none, none, none] (_ :: _) _
    wtm_at "m"
    refine ⟨a, a.toNat, rfl, fin al, ?_⟩
    wtm_at "m"
    exact endM_st1 rfl ⟨rfl, Co.eq rfl rfl rfl fse rfl⟩
  | fall a =>
    show DSs c [some (.r (.tb tab.D)), some (.ost A l.D), some (.r (.d (.tuple [.str "fall", .int a]))), none, none, none] (_ :: _) _
    wtm_at "m"
    refine ⟨a, a.toNat, rfl, fin al, ?_⟩
    wtm_at "m"
    exact endM_st1 rfl ⟨rfl, Co.eq rfl rfl rfl fse rfl⟩
  | become a x =>
    show DSs c [some (.r (.tb tab.D)), some (.ost A l.D), some (.r (.d (.tuple [.str "become", .int a, x]))), none, none, none] (_ :: _) _
    wtm_at "m"
    exact endM_st1 rfl ⟨rfl, rfl⟩
  | drop i j =>
    have hmp : gt l.m (i, j) ≠ none := al.elim (fun h => some_ne h) (fun h => h.1)
    show DSs c [some (.r (.tb tab.D)), some (.ost A l.D), some (.r (.d (.tuple [.str "drop", .int i, .int j]))), none, none, none] (_ :: _) _
    wtm_at "m"
    refine ds_callM0 ok hN .st (LkO.s LkO.z) f2 hG (by wtm_at "k.mem") ?_
    wtm_at "w"
    refine ⟨⟨l, (i, j), "fallen", hl.box hmp, fun m hm => ((hl.bx _ _ (hl.box hmp)).2 m hm).1, by have := (hl.bx _ _ (hl.box hmp)).1; omega, by omega, hsz⟩, rfl, rfl, rfl, fun k' co' A' hpo hA => ?_⟩
    obtain ⟨rfl, rfl⟩ := hpo
    show ∃ env', Up _ _ _ (.ost A' _) env' ∧ _
    wtm_at "m"
    exact endM_st1 hA ⟨rfl, rfl⟩
  | told i j =>
    have hmp : gt l.m (i, j) ≠ none := some_ne al.1
    show DSs c [some (.r (.tb tab.D)), some (.ost A l.D), some (.r (.d (.tuple [.str "told", .int i, .int j]))), none, none, none] (_ :: _) _
    wtm_at "m"
    refine ds_callM0 ok hN .st (LkO.s LkO.z) f2 hG (by wtm_at "k.mem") ?_
    wtm_at "w"
    refine ⟨⟨l, (i, j), "closed", hl.box hmp, fun m hm => ((hl.bx _ _ (hl.box hmp)).2 m hm).1, by have := (hl.bx _ _ (hl.box hmp)).1; omega, by omega, hsz⟩, rfl, rfl, rfl, fun k' co' A' hpo hA => ?_⟩
    obtain ⟨rfl, rfl⟩ := hpo
    show ∃ env', Up _ _ _ (.ost A' _) env' ∧ _
    wtm_at "m"
    exact endM_st1 hA ⟨rfl, rfl⟩
  | close i j =>
    have hmp : gt l.m (i, j) ≠ none := some_ne (show gt l.m (i, j) = some "open" from al)
    show DSs c [some (.r (.tb tab.D)), some (.ost A l.D), some (.r (.d (.tuple [.str "close", .int i, .int j]))), none, none, none] (_ :: _) _
    wtm_at "m"
    refine ds_callM0 ok hN .st (LkO.s LkO.z) f2 hG (by wtm_at "k.mem") ?_
    wtm_at "w"
    refine ⟨⟨l, (i, j), "closed", hl.box hmp, fun m hm => ((hl.bx _ _ (hl.box hmp)).2 m hm).1, by have := (hl.bx _ _ (hl.box hmp)).1; omega, by omega, hsz⟩, rfl, rfl, rfl, fun k' co' A' hpo hA => ?_⟩
    obtain ⟨rfl, rfl⟩ := hpo
    show ∃ env', Up _ _ _ (.ost A' _) env' ∧ _
    wtm_at "m"
    exact endM_st1 hA ⟨rfl, rfl⟩
  | say i j x d =>
    show DSs c [some (.r (.tb tab.D)), some (.ost A l.D), some (.r (.d (.tuple [.str "say", .int i, .int j, .str x, d]))), none, none, none] (_ :: _) _
    wtm_at "m"
    refine ds_callM1 ok hN .st (LkO.s LkO.z) f3 hG (by wtm_at "k.mem") ?_
    wtm_at "w"
    refine ⟨⟨tab, l, k, hl, hk, .say i j x d, (i, j), rfl, .inl rfl, al⟩, rfl, rfl, rfl, fun k' co' A' hpo hA => ?_⟩
    obtain ⟨rfl, rfl⟩ := hpo
    show ∃ env', Up _ _ _ (.ost A' _) env' ∧ _
    wtm_at "m"
    exact endM_st1 hA ⟨rfl, rfl⟩
  | hear i j x d =>
    show DSs c [some (.r (.tb tab.D)), some (.ost A l.D), some (.r (.d (.tuple [.str "hear", .int i, .int j, .str x, d]))), none, none, none] (_ :: _) _
    wtm_at "m"
    refine ds_callM1 ok hN .st (LkO.s LkO.z) f3 hG (by wtm_at "k.mem") ?_
    wtm_at "w"
    refine ⟨⟨tab, l, k, hl, hk, .hear i j x d, (i, j), rfl, .inr rfl, al⟩, rfl, rfl, rfl, fun k' co' A' hpo hA => ?_⟩
    obtain ⟨rfl, rfl⟩ := hpo
    show ∃ env', Up _ _ _ (.ost A' _) env' ∧ _
    wtm_at "m"
    exact endM_st1 hA ⟨rfl, rfl⟩
  | opn a cc n x nm =>
    show DSs c [some (.r (.tb tab.D)), some (.ost A l.D), some (.r (.d (.tuple [.str "open", .int a, .int cc, .int n, .tuple [.str (rtag x), .str nm]]))), none, none, none] (_ :: _) _
    have g1 : l.D.t.length ≤ 200 := by rw [Lc.D_t, List.length_map]; exact l1
    have g2 : l.D.m.length ≤ 200 := by rw [Lc.D_m, List.length_map]; exact l2
    have g3 : l.D.b.length ≤ 200 := by rw [Lc.D_b, List.length_map]; exact l3
    have u1 : ∀ p d', (l.D.put .t p d').t.length < 1000000 := fun p d' => by
      have := pt_len (r := l.D.t) (k := p) (d := d')
      show (pt l.D.t p d').length < _
      omega
    have u2 : ∀ p d' q d2, (pt (pt l.D.t p d') q d2).length < 1000000 := fun p d' q d2 => by
      have h1 := pt_len (r := l.D.t) (k := p) (d := d')
      have h2 := pt_len (r := pt l.D.t p d') (k := q) (d := d2)
      omega
    have u3 : ∀ p d', (pt l.D.m p d').length < 1000000 := fun p d' => by
      have := pt_len (r := l.D.m) (k := p) (d := d')
      omega
    have u4 : ∀ p d', (pt l.D.b p d').length < 1000000 := fun p d' => by
      have := pt_len (r := l.D.b) (k := p) (d := d')
      omega
    wtm_at "m"
    refine ⟨⟨.ref x nm, by simp [Talk.dep], by simp [Talk.size]⟩, rfl, fun w hw => ?_⟩
    subst hw
    wtm_at "m"
    refine ⟨⟨u1 _ _, t2⟩, ?_⟩
    wtm_at "m"
    refine ds_forL ok ?_
    wtm_at "w"
    generalize hT : pt (pt l.D.t (n, 1) (.tuple [.str (rtag x), .str nm])) (n, 0) (Talk.ref x nm).dual.D = T
    have uT : T.length < 1000000 := by rw [← hT]; exact u2 _ _ _ _
    refine ⟨fun rest env => ∃ (A' : Ad) (q5 : Option Slot), A'.a = A.a ∧ ((rest = [.int 0, .int 1] ∧ env = [some (.r (.tb tab.D)), some (.ost A' ⟨T, l.D.m, l.D.b, l.D.f, l.D.o⟩), some (.r (.d (.tuple [.str "open", .int a, .int cc, .int n, .tuple [.str (rtag x), .str nm]]))), some (.r (.d (.str "open"))), some (.r (.d (.tuple [.int n, .int 1]))), q5])
        ∨ (rest = [.int 1] ∧ env = [some (.r (.tb tab.D)), some (.ost A' ⟨T, pt l.D.m (n, 0) (.str "open"), pt l.D.b (n, 0) (.list []), l.D.f, l.D.o⟩), some (.r (.d (.tuple [.str "open", .int a, .int cc, .int n, .tuple [.str (rtag x), .str nm]]))), some (.r (.d (.str "open"))), some (.r (.d (.tuple [.int n, .int 1]))), q5])
        ∨ (rest = [] ∧ env = [some (.r (.tb tab.D)), some (.ost A' ⟨T, pt (pt l.D.m (n, 0) (.str "open")) (n, 1) (.str "open"), pt (pt l.D.b (n, 0) (.list [])) (n, 1) (.list []), l.D.f, l.D.o⟩), some (.r (.d (.tuple [.str "open", .int a, .int cc, .int n, .tuple [.str (rtag x), .str nm]]))), some (.r (.d (.str "open"))), some (.r (.d (.tuple [.int n, .int 1]))), q5])), ⟨A, none, rfl, .inl ⟨rfl, by rw [← hT]; rfl⟩⟩, ?_, ?_⟩
    · rintro d rest env _ ⟨A', q5, hA, h⟩
      rcases h with ⟨e, rfl⟩ | ⟨e, rfl⟩ | ⟨e, _⟩
      · cases e
        wtm_at "m"
        rename_i bl
        exact ⟨{ A' with bl := bl }, _, hA, .inr (.inl ⟨rfl, rfl⟩)⟩
      · cases e
        have v3 := u3 (n, 0) (.str "open")
        have v4 := u4 (n, 0) (.list [])
        wtm_at "m"
        rename_i bl
        exact ⟨{ A' with bl := bl }, _, hA, .inr (.inr ⟨rfl, rfl⟩)⟩
      · cases e
    · rintro env ⟨A', q5, hA, h⟩
      rcases h with ⟨e, _⟩ | ⟨e, _⟩ | ⟨_, rfl⟩
      · cases e
      · cases e
      · wtm_at "m"
        refine endM_st1 hA ⟨rfl, Co.eq ?_ ?_ ?_ ?_ rfl⟩
        · show T = (pt (pt l.t (n, 1) (.ref x nm)) (n, 0) (.ref (!x) nm)).map fun p => (p.1, p.2.D)
          rw [← hT, ← pt_mapv, ← pt_mapv]
          rfl
        · show pt (pt (l.m.map fun p => (p.1, PyData.str p.2)) (n, 0) (.str "open")) (n, 1) (.str "open") = (pt (pt l.m (n, 0) "open") (n, 1) "open").map fun p => (p.1, PyData.str p.2)
          rw [pt_mapv, pt_mapv]
        · show pt (pt (l.b.map fun p => (p.1, boxD p.2)) (n, 0) (boxD [])) (n, 1) (boxD []) = (pt (pt l.b (n, 0) []) (n, 1) []).map fun p => (p.1, boxD p.2)
          rw [pt_mapv, pt_mapv]
        · show l.f.map PyData.bool ++ [.bool false] = (l.f ++ [false]).map PyData.bool
          rw [List.map_append]
          rfl
end
/-! ### _law_blank -/
structure Stn (H Hc : Hp) (l : List (Addr × HO)) : Prop where
  its : ∀ q ∈ l, Hc q.1 = some q.2
  keep : ∀ a o, H a = some o → Hc a = some o
  nd : (l.map (·.1)).Nodup
  new : ∀ a ∈ l.map (·.1), H a = none
theorem Stn.add {H Hc : Hp} {p : Addr} {l : List (Addr × HO)} {o : HO} (h : Stn H Hc l) (hp : Hc p = none) : Stn H (upd Hc p o) ((p, o) :: l) := by
  have pH : H p = none := by
    cases e : H p with
    | none => rfl
    | some u => rw [h.keep p u e] at hp; cases hp
  have pl : p ∉ l.map (·.1) := fun hm => by
    obtain ⟨q, hq, e⟩ := List.mem_map.mp hm
    rw [← e, h.its q hq] at hp
    cases hp
  refine ⟨fun q hq => ?_, fun a u e => ?_, ?_, fun a ha => ?_⟩
  · rcases List.mem_cons.mp hq with z | z
    · subst z; exact upd_same
    · rw [upd_ne fun e => pl (List.mem_map.mpr ⟨q, z, e⟩)]
      exact h.its q z
  · rw [upd_ne fun z => by rw [z, pH] at e; cases e]
    exact h.keep a u e
  · rw [List.map_cons, List.nodup_cons]
    exact ⟨pl, h.nd⟩
  · rcases List.mem_cons.mp ha with z | z
    · subst z; exact pH
    · exact h.new a z
section
variable {P : Program} {w : World} {K : PySem.W.Frag} {mg : Str → Option Value} {base : Heap} {C : Addr} (E : Fs w K mg C)
include E
theorem ok__law_blank : FnG P w K mg base "_law_blank" 1 (SpO C .st blank) := by
  obtain ⟨f, fd, F, hm⟩ := E.d__law_blank
  refine FnX.g (f := f) ⟨fd, [], F.ok sc__law_blank (fun vs H Q E h => by rw [h.1]; rfl) (fun cdv A outer s H vs Q E hr h => ?_), F.bindsN fun _ _ _ _ _ _ us hl => match us, hl with | [], _ => by kernel_rfl⟩ hm F.kp
  refine ⟨_, PSs.nox (pss_one (ps_ret (pe_lst (pa_cons pe_dnewT (pa_cons pe_dnewT (pa_cons pe_dnewT (pa_cons (pe_lst (pa_cons pe_bl pa_nil)) (pa_cons (pe_lst pa_nil) pa_nil)))))))), ?_⟩
  obtain ⟨rfl, hq⟩ := h
  have st0 : Stn H H [] := ⟨fun q hq => (by cases hq), fun a o e => e, (by simp), fun a ha => (by simp at ha)⟩
  intro p1 h1
  have s1 := st0.add (o := .dT []) h1
  intro p2 h2
  have s2 := s1.add (o := .dT []) h2
  intro p3 h3
  have s3 := s2.add (o := .dT []) h3
  refine ⟨by decide, fun p5 h5 => ?_⟩
  have s5 := s3.add (o := .lst [.bl false]) h5
  refine ⟨by decide, fun p6 h6 => ?_⟩
  have s6 := s5.add (o := .lst []) h6
  refine ⟨(by decide : 5 ≤ sizeLine), fun x hx => ?_⟩
  have s7 := s6.add (o := .lst [.ref p1, .ref p2, .ref p3, .ref p5, .ref p6]) hx
  have i7 := s7.its (x, .lst [.ref p1, .ref p2, .ref p3, .ref p5, .ref p6]) (by simp)
  have i6 := s7.its (p6, .lst []) (by simp)
  have i5 := s7.its (p5, .lst [.bl false]) (by simp)
  have i3 := s7.its (p3, .dT []) (by simp)
  have i2 := s7.its (p2, .dT []) (by simp)
  have i1 := s7.its (p1, .dT []) (by simp)
  have nd := s7.nd
  have nw := s7.new
  simp only [List.map_cons, List.map_nil, List.nodup_cons, List.mem_cons, List.not_mem_nil, or_false, not_or] at nd nw
  obtain ⟨⟨x6, x5, x3, x2, x1⟩, ⟨a65, a63, a62, a61⟩, ⟨a53, a52, a51⟩, ⟨a32, a31⟩, a21, _⟩ := nd
  refine hq ⟨x, p1, p2, p3, p5, p6, []⟩ _ ⟨s7.keep, fun a ha => ?_, i7, ⟨⟨[], i1, .nil⟩, ⟨[], i2, .nil⟩, ⟨[], i3, trivial, by simp [blank]⟩, ⟨[.bl false], i5, .cons (.bl _) .nil⟩, ⟨[], i6, .nil⟩⟩, ?_⟩
  · simp only [Ad.fp, List.mem_cons, List.not_mem_nil, or_false] at ha
    rcases ha with rfl | rfl | rfl | rfl | rfl | rfl
    · exact ⟨nw _ (by simp), _, i7, rfl⟩
    · exact ⟨nw _ (by simp), _, i1, rfl⟩
    · exact ⟨nw _ (by simp), _, i2, rfl⟩
    · exact ⟨nw _ (by simp), _, i3, rfl⟩
    · exact ⟨nw _ (by simp), _, i5, rfl⟩
    · exact ⟨nw _ (by simp), _, i6, rfl⟩
  · show [x, p1, p2, p3, p5, p6].Nodup
    simp only [List.nodup_cons, List.mem_cons, List.not_mem_nil, or_false, not_or, not_false_eq_true, List.nodup_nil, and_true]
    exact ⟨⟨x1, x2, x3, x5, x6⟩, ⟨Ne.symm a21, Ne.symm a31, Ne.symm a51, Ne.symm a61⟩, ⟨Ne.symm a32, Ne.symm a52, Ne.symm a62⟩, ⟨Ne.symm a53, Ne.symm a63⟩, Ne.symm a65⟩
end
/-! ### _law_moves -/
section
variable {P : Program} {w : World} {K : PySem.W.Frag} {mg : Str → Option Value} {base : Heap} {C : Addr} (E : Fs w K mg C)
include E
/-- what a move is -/
def MoveP (tab : Tab) (l : Lc) (d : PD) : Prop := (∃ e : Ev, d = e.D ∧ e.gen tab ∧ e.nm ≠ "say") ∨ ∃ i j t rs, d = .tuple [.str "say", .int i, .int j] ∧ gt l.m (i, j) = some "open" ∧ gt l.t (i, j) = some t ∧ headM tab t = .act true rs
structure MvA where
  tab : Tab
  l : Lc
  k : Nat
  hl : LcOk tab k l
  hk : k ≤ 100
  hgs : ∀ p box, gt l.b p = some box → ∀ m ∈ box, gs m.1 = true
theorem ok__law_moves : FnG P w K mg base "_law_moves" 9 (SpF C (fun z : MvA => [.tb z.tab.D, .st z.l.D]) (fun z r => r.length ≤ 999 ∧ ∀ d ∈ r, MoveP z.tab z.l d)) := by
  obtain ⟨f, fd, F, hm⟩ := E.d__law_moves
  refine (st__law_moves F (fun _ => rfl) fun c I z => ?_).g hm F.kp
  have ok := I.ok
  have hN := I.N
  have hG := I.G
  have hL := I.Lo
  have bi := I.bi E.bi
  have f1 := I.fn (sp := fun C => SpD C _ _) (ok__law_head E 3) (by omega)
  obtain ⟨tab, l, k, hl, hk, hgs⟩ := z
  obtain ⟨l1, l2, l3, l4, l5⟩ := hl.small hk
  show DSs c [some (.r (.tb tab.D)), some (.r (.st l.D)), none, none, none, none] (_ :: _) _
  wtm_at "w"
  refine ds_forL ok ?_
  wtm_at "w"
  refine ⟨_, rfl, fun ps hps hpk => ?_⟩
  refine ⟨_, rfl, ⟨fun rest env => ∃ (zs : List Pl) (ms : List PD) (q3 q4 q5 : Option Slot), rest = zs.map pd ∧ env = [some (.r (.tb tab.D)), some (.r (.st l.D)), some (.l ms), q3, q4, q5] ∧ (∀ p ∈ zs, gt l.m p ≠ none) ∧ ms.length + zs.length ≤ 999 ∧ ∀ d ∈ ms, MoveP tab l d, ⟨ps, [], none, none, none, rfl, rfl, ?_, ?_, fun d hd => (by cases hd)⟩, ?_, ?_⟩⟩
  · intro p hp
    have := hpk p hp
    rw [Lc.D_m, List.map_map] at this
    obtain ⟨q, hq, e⟩ := List.mem_map.mp this
    exact fun z => gt_none.mp z q hq e
  · rw [Lc.D_m, List.length_map] at hps
    simp only [List.length_nil]
    omega
  · rintro d rest env _ ⟨zs, ms, q3, q4, q5, er, rfl, hz, hn, hms⟩
    cases zs with
    | nil => cases er
    | cons p zs =>
      cases er
      obtain ⟨i, j⟩ := p
      simp only [List.length_cons] at hn
      have hmp := hz (i, j) List.mem_cons_self
      obtain ⟨mk, hmk⟩ := Option.ne_none_iff_exists'.mp hmp
      obtain ⟨t, ht, hU⟩ := hl.t _ hmp
      have hb := hl.box hmp
      obtain ⟨mq, hmq⟩ := Option.ne_none_iff_exists'.mp (hl.pa _ hmp)
      have hmq : gt l.m (i, 1 - j) = some mq := hmq
      have x1 : ixW (.dt l.D.m) (.d (.tuple [.int i, .int j])) = some (.d (.str mk)) := ix_dt (by rw [Lc.gt_m, hmk]; rfl)
      have x2 : ixW (.dt l.D.t) (.d (.tuple [.int i, .int j])) = some (.d t.D) := ix_dt (by rw [Lc.gt_t, ht]; rfl)
      have x3 : ixW (.dt l.D.b) (.d (.tuple [.int i, .int j])) = some (.d (.list ((boxOf l (i, j)).map Msg.D))) := ix_dt (by rw [Lc.gt_b, hb]; rfl)
      have x4 : ixW (.dt l.D.m) (.d (.tuple [.int i, .int (1 - j)])) = some (.d (.str mq)) := ix_dt (by rw [Lc.gt_m, hmq]; rfl)
      have hlm : ms.length < 1000000 := by omega
      have skip : ∀ (q3 q4 q5 : Option Slot), ∃ (zs' : List Pl) (ms' : List PD) (q3' q4' q5' : Option Slot), zs.map pd = zs'.map pd ∧ [some (.r (.tb tab.D)), some (.r (.st l.D)), some (.l ms), q3, q4, q5] = [some (.r (.tb tab.D)), some (.r (.st l.D)), some (.l ms'), q3', q4', q5'] ∧ (∀ p ∈ zs', gt l.m p ≠ none) ∧ ms'.length + zs'.length ≤ 999 ∧ ∀ d ∈ ms', MoveP tab l d := fun q3 q4 q5 => ⟨zs, ms, q3, q4, q5, rfl, rfl, fun p hp => hz p (List.mem_cons_of_mem _ hp), by omega, hms⟩
      have add : ∀ (d : PD), MoveP tab l d → ∀ (q3 q4 q5 : Option Slot), ∃ (zs' : List Pl) (ms' : List PD) (q3' q4' q5' : Option Slot), zs.map pd = zs'.map pd ∧ [some (.r (.tb tab.D)), some (.r (.st l.D)), some (.l (ms ++ [d])), q3, q4, q5] = [some (.r (.tb tab.D)), some (.r (.st l.D)), some (.l ms'), q3', q4', q5'] ∧ (∀ p ∈ zs', gt l.m p ≠ none) ∧ ms'.length + zs'.length ≤ 999 ∧ ∀ d ∈ ms', MoveP tab l d := fun d hd q3 q4 q5 => ⟨zs, ms ++ [d], q3, q4, q5, rfl, rfl, fun p hp => hz p (List.mem_cons_of_mem _ hp), by rw [List.length_append]; simp only [List.length_cons, List.length_nil]; omega, fun d' hd' => (List.mem_append.mp hd').elim (hms d') fun z => by rw [List.mem_singleton.mp z]; exact hd⟩
      show DG c _ _ (.tuple [.int i, .int j]) _
      by_cases hop : mk = "open"
      · subst hop
        wtm_at "w"
        refine ⟨⟨(tab, t), hU.toTA, hU.toTA.rk⟩, rfl, fun w hw => ?_⟩
        rcases tag_cases hU.toTA.non with hd | ⟨s, rs, hd⟩
        · obtain rfl : w = .d Talk.fin.D := hw.trans (congrArg (fun t : Talk => W.d t.D) hd)
          wtm_at "w"
          exact add _ (.inl ⟨.close i j, rfl, trivial, by show ("close" : Str) ≠ "say"; decide⟩) _ _ _
        · cases s
          · obtain rfl : w = .d (Talk.act false rs).D := hw.trans (congrArg (fun t : Talk => W.d t.D) hd)
            cases hbe : boxOf l (i, j) with
            | nil =>
              rw [hbe] at x3
              wtm_at "w"
              all_goals first
                | exact skip _ _ _
                | exact add _ (.inl ⟨.told i j, rfl, trivial, by show ("told" : Str) ≠ "say"; decide⟩) _ _ _
                | trace_state
            | cons m r =>
              obtain ⟨ml, mp⟩ := m
              rw [hbe] at x3
              have x0 : ixW (.d (.list (List.map Msg.D ((ml, mp) :: r)))) (.d (.int 0)) = some (.d (.tuple [.str ml, mp])) := ix_l0
              wtm_at "w"
              exact add _ (.inl ⟨.hear i j ml mp, rfl, ⟨hgs _ _ hb (ml, mp) (by rw [hbe]; simp), ((hl.bx _ _ hb).2 (ml, mp) (by rw [hbe]; simp)).1⟩, by show ("hear" : Str) ≠ "say"; decide⟩) _ _ _
          · obtain rfl : w = .d (Talk.act true rs).D := hw.trans (congrArg (fun t : Talk => W.d t.D) hd)
            wtm_at "w"
            exact add _ (.inr ⟨i, j, t, rs, rfl, hmk, ht, hd⟩) _ _ _
      · have b1 : (PyData.str mk).eqv (PyData.str "open") = false := by rw [eqv_str]; exact decide_eq_false hop
        wtm_at "w"
        exact skip _ _ _
  · rintro env ⟨zs, ms, q3, q4, q5, er, rfl, hz, hn, hms⟩
    wtm_at "w"
    exact ⟨by omega, hms⟩
end
/-! ### _law_wide, _law_take -/
theorem DS.nxI' {c : Ctx} {env : En} {st : Stmt} {κ : Kt} {Q : En → Prop} (h : DS c env st { κ with nx := Q }) (i : ∀ e, Q e → κ.nx e) : DS c env st κ := fun X hX B Z H S fp σ E D k => h X hX B Z H S fp σ E D ⟨fun env H' S' fp σ hq => k.nx env H' S' fp σ (i env hq), k.rt, k.rl, k.bk, k.ct⟩
section
variable {P : Program} {w : World} {K : PySem.W.Frag} {mg : Str → Option Value} {base : Heap} {C : Addr} (E : Fs w K mg C)
include E
theorem ok__law_wide : FnG P w K mg base "_law_wide" 1 (SpD C (fun z : List Int × Nat => [.d (.list (z.1.map .int)), .d (.int z.2)]) (fun _ r => ∃ n : Int, r = .d (.int n))) := by
  obtain ⟨f, fd, F, hm⟩ := E.d__law_wide
  refine (st__law_wide F (fun _ => rfl) fun c I z => ?_).g hm F.kp
  have ok := I.ok
  have hN := I.N
  have hG := I.G
  have hL := I.Lo
  have bi := I.bi E.bi
  obtain ⟨ns, k⟩ := z
  have tail : ∀ cell : Int, DSs c [some (.r (.d (.list (ns.map .int)))), some (.r (.d (.int (k : Int)))), some (.r (.d (.int cell))), none] ((defBody s__law_wide).drop 2) ⟨fun _ => ∃ n : Int, W.d .none = .d (.int n), fun r _ => ∃ n : Int, r = .d (.int n), fun ds _ => ∃ n : Int, W.d (.list ds) = .d (.int n), fun _ => False, fun _ => False⟩ := by
    intro cell
    show DSs c _ (_ :: _) _
    wtm_at "w"
    · exact ⟨_, rfl⟩
    · refine ⟨.inr ⟨by decide, by decide⟩, ?_⟩
      wtm_at "w"
      refine ⟨.inr ⟨by decide, by decide⟩, ?_⟩
      wtm_at "w"
      refine ⟨_, _, rfl, rfl, ?_⟩
      wtm_at "w"
      refine ⟨by decide, ?_⟩
      wtm_at "w"
      refine ⟨.inr ⟨by decide, by decide⟩, ?_⟩
      wtm_at "w"
      refine ⟨⟨by decide, by decide⟩, ?_⟩
      wtm_at "w"
      refine ⟨_, _, rfl, rfl, ?_⟩
      wtm_at "w"
      refine ⟨by decide, ?_⟩
      exact ⟨_, rfl⟩
  show DSs c [some (.r (.d (.list (ns.map .int)))), some (.r (.d (.int (k : Int)))), none, none] (_ :: _) _
  have hlw : ((ns.map PyData.int).length : Int) = (ns.length : Int) := by rw [List.length_map]
  by_cases hk : k < ns.length
  · have b1 : decide ((k : Int) < ((ns.map PyData.int).length : Int)) = true := decide_eq_true (by omega)
    have hix : ixW (.d (.list (ns.map .int))) (.d (.int (k : Int))) = some (.d (.int (ns[k]))) := by
      show (atI (ns.map PyData.int) (k : Int)).map W.d = _
      unfold atI
      have e : ixN (ns.map PyData.int).length (k : Int) = some k := by unfold ixN; simp; omega
      rw [e]
      simp [hk]
    refine dss_cons ?_
    wtm_at "k1"
    wtm_at "k1"
    wtm_at "k1"
    refine dss_cons (DS.nxI' (Q := fun e => ∃ cell : Int, e = [some (.r (.d (.list (ns.map .int)))), some (.r (.d (.int (k : Int)))), some (.r (.d (.int cell))), none]) ?_ ?_)
    · wtm_at "w"
      exact ⟨_, rfl⟩
    · rintro e ⟨cell, rfl⟩
      exact tail cell
  · have b1 : decide ((k : Int) < ((ns.map PyData.int).length : Int)) = false := decide_eq_false (by omega)
    refine dss_cons ?_
    wtm_at "k1"
    wtm_at "k1"
    wtm_at "k1"
    refine dss_cons (DS.nxI' (Q := fun e => ∃ cell : Int, e = [some (.r (.d (.list (ns.map .int)))), some (.r (.d (.int (k : Int)))), some (.r (.d (.int cell))), none]) ?_ ?_)
    · wtm_at "w"
      exact ⟨_, rfl⟩
    · rintro e ⟨cell, rfl⟩
      exact tail cell
/-- a drawn number below m -/
def Drawn (m : Int) (r : W) : Prop := ∃ v : Int, r = .d (.int v) ∧ 0 ≤ v ∧ v < m
theorem ok__law_take : FnG P w K mg base "_law_take" 2 (SpDP C (fun m : { m : Int // 0 < m ∧ m < 1000 } => [.d (.int m.1)]) (fun m r => Drawn m.1 r)) := by
  obtain ⟨f, fd, F, hm⟩ := E.d__law_take
  obtain ⟨f2, fd2, ps2, FO2, hm2, hk2, hb2⟩ := (ok__law_wide (P := P) (base := base) E).ex
  have S : FnScope ["_law_pool_here", "_law_most", "_law_value"] ["_law_pool_here", "_law_most"] (defScope s__law_take) := ⟨rfl, rfl, rfl, by decide +kernel, rfl, by decide +kernel, by decide +kernel⟩
  refine FnX.g (f := f) (fx_DP (Ls := ["_law_pool_here", "_law_most", "_law_value"]) (G := ["_law_wide", "int"]) (k := 1) F S (by decide +kernel) (by decide +kernel) (by decide +kernel) 1 rfl (fun _ => rfl) (fun _ _ _ _ _ _ us hl => match us, hl with | [_, _], _ => by kernel_rfl) fun c pl I z => ?_) hm F.kp
  have ok := I.ok
  have hN := I.N
  have hG := I.G
  have hL := I.Lo
  have bi := I.bi E.bi
  have f1 := I.fn (sp := fun C => SpD C _ _) (ok__law_wide E) (by omega)
  obtain ⟨m, hm1, hm2⟩ := z
  have tail : DSs c [some .pool, some (.r (.d (.int m))), none] ((defBody s__law_take).drop 1) ⟨fun _ => Drawn m (.d .none), fun r _ => Drawn m r, fun ds _ => Drawn m (.d (.list ds)), fun _ => False, fun _ => False⟩ := by
    show DSs c _ (_ :: _) _
    wtm_at "w"
    refine ⟨_, _, rfl, rfl, ?_⟩
    wtm_at "w"
    refine ⟨hm1, ?_⟩
    wtm_at "w"
    refine ds_pool0 ok hN LkP.z ?_
    wtm_at "w"
    refine ⟨⟨hm1, by show m < 1073741824; omega⟩, ?_⟩
    wtm_at "w"
    exact ⟨_, rfl, Int.emod_nonneg _ (by omega), Int.emod_lt_of_pos _ hm1⟩
  show DSs c [some .pool, some (.r (.d (.int m))), none] (_ :: _) _
  refine dss_cons (ds_if (dt_cr (cr_int ic_lt (de_pool0 ok hN LkP.z fun n => de_int ⟨n, 1000, rfl, rfl, ?_⟩))))
  refine ⟨fun _ => ?_, fun _ => ?_⟩
  · refine dss_draw ok hN LkP.z f1 hG (by wtm_at "k.mem") ?_
    exact dss_nil tail
  · exact dss_nil tail
end
/-! ### _law_names, _law_kind, _law_label -/
theorem nth_mem {ds : List PD} {n : Nat} (h : n < ds.length) : ∃ d ∈ ds, ds[n]? = some d := ⟨ds[n], List.getElem_mem h, List.getElem?_eq_getElem h⟩
theorem ix_drawn {ds : List PD} {v : Int} (h0 : 0 ≤ v) (h1 : v < ds.length) : ∃ d ∈ ds, ixW (.d (.list ds)) (.d (.int v)) = some (.d d) := by
  obtain ⟨n, rfl⟩ := Int.eq_ofNat_of_zero_le h0
  have hn : n < ds.length := by omega
  refine ⟨ds[n], List.getElem_mem hn, ?_⟩
  show (atI ds (n : Int)).map W.d = _
  unfold atI
  have e : ixN ds.length (n : Int) = some n := by unfold ixN; simp; omega
  rw [e]
  simp [hn]
def nm1 : List Str := ["T", "Ta", "Talk", "X9", "Calc", "B"]
def nm2 : List Str := ["U", "Tb", "Tal", "X8", "Dial", "A"]
def labL : List Str := ["go", "goo", "stop", "a", "b", "at"]
structure NmOk (ns : List Str) : Prop where
  pos : ns.length ≠ 0
  len : ns.length ≤ 3
  nd : ns.Nodup
  good : ∀ n ∈ ns, gs n = true
theorem nm_all : ∀ a ∈ nm1, ∀ b ∈ nm2, a ≠ b ∧ a ≠ "Zz" ∧ b ≠ "Zz" ∧ gs a = true ∧ gs b = true ∧ gs "Zz" = true := by decide +kernel
theorem lab_all : ∀ a ∈ labL, gs a = true := by decide +kernel
theorem cut_le {ds : List PD} {v : Int} (h : 0 ≤ v) : cutD ds none (some v) = ds.take v.toNat := by
  obtain ⟨n, rfl⟩ := Int.eq_ofNat_of_zero_le h
  exact cut_to
section
variable {P : Program} {w : World} {K : PySem.W.Frag} {mg : Str → Option Value} {base : Heap} {C : Addr} (E : Fs w K mg C)
include E
theorem ok__law_label : FnG P w K mg base "_law_label" 3 (SpDP C (fun _ : Unit => []) (fun _ r => ∃ x : Str, r = .d (.str x) ∧ x ∈ labL)) := by
  obtain ⟨f, fd, F, hm⟩ := E.d__law_label
  refine (st__law_label F (fun _ => rfl) fun c pl I z => ?_).g hm F.kp
  have ok := I.ok
  have hN := I.N
  have hG := I.G
  have hL := I.Lo
  have f1 := I.fn (sp := fun C => SpDP C _ _) (ok__law_take E) (by omega)
  show DSs c [some .pool] (_ :: _) _
  wtm_at "w"
  refine ⟨⟨6, by decide⟩, rfl, fun w hw => ?_⟩
  obtain ⟨v, rfl, h0, h1⟩ := hw
  obtain ⟨d, hd, hix⟩ := ix_drawn (ds := labL.map PyData.str) h0 h1
  obtain ⟨x, hx, rfl⟩ := List.mem_map.mp hd
  exact ⟨_, hix, x, rfl, hx⟩
theorem ok__law_kind : FnG P w K mg base "_law_kind" 3 (SpDP C (fun z : { ns : List Str // NmOk ns } => [.d (.list (z.1.map .str))]) (fun z r => ∃ k : Kind, r = .d k.D ∧ ∀ b n, k = .ref b n → n ∈ z.1)) := by
  obtain ⟨f, fd, F, hm⟩ := E.d__law_kind
  refine (st__law_kind F (fun _ => rfl) fun c pl I z => ?_).g hm F.kp
  have ok := I.ok
  have hN := I.N
  have hG := I.G
  have hL := I.Lo
  have bi := I.bi E.bi
  have f1 := I.fn (sp := fun C => SpDP C _ _) (ok__law_take E) (by omega)
  obtain ⟨ns, hns⟩ := z
  show DSs c [some .pool, some (.r (.d (.list (ns.map .str)))), none] (_ :: _) _
  wtm_at "w"
  refine ⟨⟨6, by decide⟩, rfl, fun w hw => ?_⟩
  obtain ⟨v, rfl, h0, h1⟩ := hw
  wtm_at "w"
  · rename_i h
    have h := of_decide_eq_true h
    obtain ⟨d, hd, hix⟩ := ix_drawn (ds := [.none, .str "int", .str "bool"]) h0 h
    refine ⟨_, hix, ?_⟩
    simp only [List.mem_cons, List.not_mem_nil, or_false] at hd
    rcases hd with rfl | rfl | rfl
    · exact ⟨.non, rfl, fun _ _ e => by cases e⟩
    · exact ⟨.int, rfl, fun _ _ e => by cases e⟩
    · exact ⟨.bool, rfl, fun _ _ e => by cases e⟩
  · refine ⟨by decide, ?_⟩
    have hp2 : 0 ≤ v % 2 ∧ v % 2 < 2 := ⟨Int.emod_nonneg _ (by decide), Int.emod_lt_of_pos _ (by decide)⟩
    obtain ⟨d, hd, hix⟩ := ix_drawn (ds := [.str "name", .str "dual"]) hp2.1 hp2.2
    refine ⟨_, hix, ?_⟩
    have hl0 := hns.pos
    have hl1 := hns.len
    wtm_at "w"
    refine ⟨⟨((ns.map PyData.str).length : Int), by rw [List.length_map]; omega⟩, rfl, fun w hw => ?_⟩
    obtain ⟨u, rfl, g0, g1⟩ := hw
    obtain ⟨d2, hd2, hix2⟩ := ix_drawn (ds := ns.map PyData.str) g0 g1
    obtain ⟨n, hn, rfl⟩ := List.mem_map.mp hd2
    refine ⟨_, hix2, ?_⟩
    wtm_at "w"
    simp only [List.mem_cons, List.not_mem_nil, or_false] at hd
    rcases hd with rfl | rfl
    · exact ⟨.ref false n, rfl, fun _ _ e => by cases e; exact hn⟩
    · exact ⟨.ref true n, rfl, fun _ _ e => by cases e; exact hn⟩
theorem ok__law_names : FnG P w K mg base "_law_names" 3 (SpFP C (fun _ : Unit => []) (fun _ r => ∃ ns : List Str, r = ns.map .str ∧ NmOk ns)) := by
  obtain ⟨f, fd, F, hm⟩ := E.d__law_names
  refine (st__law_names F (fun _ => rfl) fun c pl I z => ?_).g hm F.kp
  have ok := I.ok
  have hN := I.N
  have hG := I.G
  have hL := I.Lo
  have f1 := I.fn (sp := fun C => SpDP C _ _) (ok__law_take E) (by omega)
  show DSs c [some .pool, none, none] (_ :: _) _
  wtm_at "w"
  refine ⟨⟨6, by decide⟩, rfl, fun w hw => ?_⟩
  obtain ⟨v, rfl, h0, h1⟩ := hw
  obtain ⟨d, hd, hix⟩ := ix_drawn (ds := nm1.map PyData.str) h0 h1
  obtain ⟨a, ha, rfl⟩ := List.mem_map.mp hd
  refine ⟨_, hix, ?_⟩
  wtm_at "w"
  refine ⟨⟨6, by decide⟩, rfl, fun w hw => ?_⟩
  obtain ⟨v, rfl, h0, h1⟩ := hw
  obtain ⟨d, hd, hix⟩ := ix_drawn (ds := nm2.map PyData.str) h0 h1
  obtain ⟨b, hb, rfl⟩ := List.mem_map.mp hd
  refine ⟨_, hix, ?_⟩
  obtain ⟨q1, q2, q3, q4, q5, q6⟩ := nm_all a ha b hb
  refine ⟨_, by wtm_at "k.up", ?_⟩
  refine dss_one (ds_retF (df_cut ?_))
  wtm_at "w"
  refine ⟨⟨3, by decide⟩, rfl, fun w hw => ?_⟩
  obtain ⟨v, rfl, h0, h1⟩ := hw
  wtm_at "w"
  show ∃ ns : List Str, cutD [.str a, .str b, .str "Zz"] none (some (1 + v)) = ns.map .str ∧ NmOk ns
  rw [cut_le (by have := h0; omega)]
  have h1 : v < 3 := h1
  have hv : v = 0 ∨ v = 1 ∨ v = 2 := by omega
  rcases hv with rfl | rfl | rfl
  · exact ⟨[a], rfl, by simp, by simp, by simp, by simp [q4]⟩
  · exact ⟨[a, b], rfl, by simp, by simp, by simp [q1], by simp [q4, q5]⟩
  · exact ⟨[a, b, "Zz"], rfl, by simp, by simp, by simp [q1, q2, q3], by simp [q4, q5, q6]⟩
end
/-! ### _law_talk -/
mutual
def Talk.nok (ns : List Str) : Talk → Prop
  | .fin => True
  | .ref _ n => n ∈ ns
  | .act _ rs => rs.ne = true ∧ rs.nok ns
def Rows.nok (ns : List Str) : Rows → Prop
  | .nil => True
  | .cons l k t rs => gs l = true ∧ (∀ b n, k = .ref b n → n ∈ ns) ∧ t.nok ns ∧ rs.nok ns
end
def szB : Nat → Nat
  | 0 => 1
  | d + 1 => 1 + 3 * (szB d + 1)
structure TkOk (ns : List Str) (d : Nat) (t : Talk) : Prop where
  nok : t.nok ns
  dep : t.dep ≤ d
  size : t.size ≤ szB d
  top : d = 2 → t.isRef = false
def Rows.ofL : List Row → Rows
  | [] => .nil
  | r :: rs => .cons r.1 r.2.1 r.2.2 (Rows.ofL rs)
theorem ofL_D : ∀ rs : List Row, (Rows.ofL rs).D = rs.map Row.D
  | [] => rfl
  | r :: rs => by rw [Rows.ofL, Rows.D, ofL_D rs]; rfl
theorem ofL_ne : ∀ {rs : List Row}, rs ≠ [] → (Rows.ofL rs).ne = true
  | [], h => absurd rfl h
  | _ :: _, _ => rfl
structure RwOk (ns : List Str) (d : Nat) (r : Row) : Prop where
  lab : gs r.1 = true
  kd : ∀ b n, r.2.1 = .ref b n → n ∈ ns
  nok : r.2.2.nok ns
  dep : r.2.2.dep ≤ d
  size : r.2.2.size ≤ szB d
theorem ofL_ok {ns : List Str} {d : Nat} : ∀ {rs : List Row}, (∀ r ∈ rs, RwOk ns d r) → (Rows.ofL rs).nok ns ∧ (Rows.ofL rs).dep ≤ d ∧ (Rows.ofL rs).size ≤ rs.length * (szB d + 1)
  | [], _ => ⟨by simp [Rows.ofL, Rows.nok], by simp [Rows.ofL, Rows.dep], by simp [Rows.ofL, Rows.size]⟩
  | r :: rs, h => by
    obtain ⟨h1, h2, h3⟩ := ofL_ok (rs := rs) fun q hq => h q (List.mem_cons_of_mem _ hq)
    obtain ⟨g1, g2, g3, g4, g5⟩ := h r List.mem_cons_self
    refine ⟨by simp only [Rows.ofL, Rows.nok]; exact ⟨g1, g2, g3, h1⟩, by simp only [Rows.ofL, Rows.dep]; omega, ?_⟩
    simp only [Rows.ofL, Rows.size, List.length_cons, Nat.add_mul]
    omega
theorem inL_str {x : Str} : ∀ l : List Str, ∃ k, inL x (l.map .str) = some k
  | [] => ⟨_, rfl⟩
  | a :: l => by
    obtain ⟨k, hk⟩ := inL_str l
    exact ⟨_, by show (inL x (l.map .str)).map _ = _; rw [hk]; rfl⟩
def Row.labD (r : Row) : PD := .str r.1
section
variable {P : Program} {w : World} {K : PySem.W.Frag} {mg : Str → Option Value} {base : Heap} {C : Addr} (E : Fs w K mg C)
include E
theorem ok__law_talk : ∀ d : Nat, d ≤ 2 → FnG P w K mg base "_law_talk" (d + 4) (SpDP C (fun z : { ns : List Str // NmOk ns } => [.d (.list (z.1.map .str)), .d (.int (d : Int))]) (fun z r => ∃ t : Talk, r = .d t.D ∧ TkOk z.1 d t)) := by
  intro d
  induction d with
  | zero => intro _; exact goAt 0 (by omega) (fun h => absurd rfl h)
  | succ d ih => intro h; exact goAt (d + 1) h (fun _ => ih (by omega))
where
  goAt (d : Nat) (hd : d ≤ 2) (ih : d ≠ 0 → FnG P w K mg base "_law_talk" (d - 1 + 4) (SpDP C (fun z : { ns : List Str // NmOk ns } => [.d (.list (z.1.map .str)), .d (.int ((d - 1 : Nat) : Int))]) (fun z r => ∃ t : Talk, r = .d t.D ∧ TkOk z.1 (d - 1) t))) :
      FnG P w K mg base "_law_talk" (d + 4) (SpDP C (fun z : { ns : List Str // NmOk ns } => [.d (.list (z.1.map .str)), .d (.int (d : Int))]) (fun z r => ∃ t : Talk, r = .d t.D ∧ TkOk z.1 d t)) := by
    obtain ⟨f, fd, F, hm⟩ := E.d__law_talk
    refine (st__law_talk F (fun _ => rfl) fun c pl I z => ?_).g hm F.kp
    have ok := I.ok
    have hN := I.N
    have hG := I.G
    have hL := I.Lo
    have bi := I.bi E.bi
    have f1 := I.fn (sp := fun C => SpDP C _ _) (ok__law_take E) (by omega)
    have f2 := I.fn (sp := fun C => SpDP C _ _) (ok__law_label E) (by omega)
    have f3 := I.fn (sp := fun C => SpDP C _ _) (ok__law_kind E) (by omega)
    obtain ⟨ns, hns⟩ := z
    have hl0 := hns.pos
    have hl1 := hns.len
    have hln : 0 < ((ns.map PyData.str).length : Int) ∧ ((ns.map PyData.str).length : Int) < 1000 := by rw [List.length_map]; omega
    show DSs c [some .pool, some (.r (.d (.list (ns.map .str)))), some (.r (.d (.int (d : Int)))), none, none, none, none, none, none] (_ :: _) _
    wtm_at "w"
    refine ⟨⟨8, by decide⟩, rfl, fun w hw => ?_⟩
    obtain ⟨v, rfl, h0, h1⟩ := hw
    wtm_at "w"
    · exact ⟨.fin, rfl, by simp [Talk.nok], by simp [Talk.dep], by simp only [Talk.size]; cases d <;> simp [szB], fun _ => rfl⟩
    · rename_i hv3 hd2
      have hd2 : d < 2 := by have := of_decide_eq_true hd2; omega
      refine ⟨by decide, ?_⟩
      obtain ⟨e, he, hix⟩ := ix_drawn (ds := [.str "name", .str "dual"]) (v := v % 2) (Int.emod_nonneg _ (by decide)) (Int.emod_lt_of_pos _ (by decide))
      refine ⟨_, hix, ?_⟩
      wtm_at "w"
      refine ⟨⟨((ns.map PyData.str).length : Int), hln⟩, rfl, fun w hw => ?_⟩
      obtain ⟨u, rfl, g0, g1⟩ := hw
      obtain ⟨e2, he2, hix2⟩ := ix_drawn (ds := ns.map PyData.str) g0 g1
      obtain ⟨n, hn, rfl⟩ := List.mem_map.mp he2
      refine ⟨_, hix2, ?_⟩
      wtm_at "w"
      simp only [List.mem_cons, List.not_mem_nil, or_false] at he
      have hk : ∀ b, TkOk ns d (.ref b n) := fun b => ⟨by simp only [Talk.nok]; exact hn, by simp [Talk.dep], by simp only [Talk.size]; cases d <;> simp [szB], fun h => by omega⟩
      rcases he with rfl | rfl
      · exact ⟨.ref false n, rfl, hk _⟩
      · exact ⟨.ref true n, rfl, hk _⟩
    · rename_i h1 h2
      exfalso
      rw [eqv_int] at h2
      have h1 := of_decide_eq_false h1
      have h2 := of_decide_eq_true h2
      omega
    rotate_left
    · rename_i hv3 hd0
      rw [eqv_int] at hd0
      have hd0 : d = 0 := by have := of_decide_eq_true hd0; omega
      subst hd0
      refine ⟨by decide, ?_⟩
      have h3 : v % 3 = 0 ∨ v % 3 = 1 ∨ v % 3 = 2 := by omega
      rcases h3 with h3 | h3 | h3
      · rw [h3]
        wtm_at "w"
        refine ⟨⟨((ns.map PyData.str).length : Int), hln⟩, rfl, fun w hw => ?_⟩
        obtain ⟨u, rfl, g0, g1⟩ := hw
        obtain ⟨e2, he2, hix2⟩ := ix_drawn (ds := ns.map PyData.str) g0 g1
        obtain ⟨n, hn, rfl⟩ := List.mem_map.mp he2
        refine ⟨_, hix2, ?_⟩
        wtm_at "w"
        refine ⟨by decide, ?_⟩
        wtm_at "w"
        refine ⟨_, _, rfl, rfl, ?_⟩
        rw [h3]
        wtm_at "w"
        refine ⟨_, rfl, ?_⟩
        exact ⟨.ref false n, rfl, by simp only [Talk.nok]; exact hn, by simp [Talk.dep], by simp [Talk.size, szB], fun h => by omega⟩
      · rw [h3]
        wtm_at "w"
        refine ⟨⟨((ns.map PyData.str).length : Int), hln⟩, rfl, fun w hw => ?_⟩
        obtain ⟨u, rfl, g0, g1⟩ := hw
        obtain ⟨e2, he2, hix2⟩ := ix_drawn (ds := ns.map PyData.str) g0 g1
        obtain ⟨n, hn, rfl⟩ := List.mem_map.mp he2
        refine ⟨_, hix2, ?_⟩
        wtm_at "w"
        refine ⟨by decide, ?_⟩
        wtm_at "w"
        refine ⟨_, _, rfl, rfl, ?_⟩
        rw [h3]
        wtm_at "w"
        refine ⟨_, rfl, ?_⟩
        exact ⟨.ref true n, rfl, by simp only [Talk.nok]; exact hn, by simp [Talk.dep], by simp [Talk.size, szB], fun h => by omega⟩
      · rw [h3]
        wtm_at "w"
        refine ⟨⟨((ns.map PyData.str).length : Int), hln⟩, rfl, fun w hw => ?_⟩
        obtain ⟨u, rfl, g0, g1⟩ := hw
        obtain ⟨e2, he2, hix2⟩ := ix_drawn (ds := ns.map PyData.str) g0 g1
        obtain ⟨n, hn, rfl⟩ := List.mem_map.mp he2
        refine ⟨_, hix2, ?_⟩
        wtm_at "w"
        refine ⟨by decide, ?_⟩
        wtm_at "w"
        refine ⟨_, _, rfl, rfl, ?_⟩
        rw [h3]
        wtm_at "w"
        refine ⟨_, rfl, ?_⟩
        exact ⟨.fin, rfl, by simp [Talk.nok], by simp [Talk.dep], by simp [Talk.size, szB], fun h => by omega⟩
    all_goals
      have hd0 : d ≠ 0 := fun h => by subst h; first | (rename_i a b; rw [eqv_int] at b; exact absurd (of_decide_eq_false b) (by simp))
      obtain ⟨d', rfl⟩ : ∃ d', d = d' + 1 := ⟨d - 1, by omega⟩
      have f4 := I.fn (sp := fun C => SpDP C _ _) (ih hd0) (by omega)
      refine ds_forR ok bi hG (by wtm_at "k.mem") ?_
      wtm_at "w"
      refine ⟨⟨3, by decide⟩, rfl, fun w hw => ?_⟩
      obtain ⟨u, rfl, g0, g1⟩ := hw
      have g1 : u < 3 := g1
      wtm_at "w"
      refine ⟨by omega, by omega, fun i env => ∃ (rs : List Row) (q5 q6 q7 : Option Slot), env = [some .pool, some (.r (.d (.list (ns.map .str)))), some (.r (.d (.int ((d' + 1 : Nat) : Int)))), some (.r (.d (.int v))), some (.l (rs.map Row.D)), q5, q6, q7, none] ∧ rs.length ≤ i ∧ (i ≠ 0 → rs ≠ []) ∧ ∀ r ∈ rs, RwOk ns d' r, ⟨[], _, _, _, rfl, by simp, fun h => absurd rfl h, fun r hr => (by cases hr)⟩, ?_, ?_⟩
      · rintro i env1 hi ⟨rs, q5, q6, q7, rfl, hrs, hne, hok⟩
        have hl : (rs.map Row.D).length < 1000000 := by rw [List.length_map]; omega
        have hlc : rs.length ≤ 1000000 := by omega
        wtm_at "m"
        refine ⟨(), rfl, fun w hw => ?_⟩
        obtain ⟨x, rfl, hx⟩ := hw
        wtm_at "m"
        refine de_of_df (lc_D .l I ["_law_row_here"] ["_law_row_here"] [] [("_law_row_here", 8)] (by decide +kernel) (by wtm_at "k.mk") fun cb Ib => ?_)
        wtm_at "k1"
        refine ⟨_, rfl, ?_⟩
        have okb := Ib.ok
        have hNb := Ib.N
        have hGb := Ib.G
        have hLb := Ib.Lo
        refine lc_map Row.D Row.labD hlc (fun r hr => ?_) ?_
        · obtain ⟨l, k, t⟩ := r
          show DG cb _ _ (.tuple [.str l, k.D, t.D]) _
          wtm_at "w"
          rfl
        · obtain ⟨kk, hkk⟩ := inL_str (x := x) (rs.map (·.1))
          rw [List.map_map] at hkk
          have hin : inW (.d (.str x)) (.d (.list (rs.map Row.labD))) = some kk := hkk
          refine ⟨kk, hin, ?_⟩
          cases kk with
          | true =>
            wtm_at "m"
            exact ⟨rs, _, _, _, rfl, by omega, fun _ e => (by rw [e] at hkk; cases hkk), hok⟩
          | false =>
            wtm_at "m"
            refine ⟨⟨ns, hns⟩, rfl, fun w hw => ?_⟩
            obtain ⟨kd, rfl, hkd⟩ := hw
            have hki : immW (.d kd.D) = true := by show imm kd.D = true; cases kd <;> simp [Kind.D, K49.imm, immAll]
            wtm_at "m"
            refine ⟨⟨ns, hns⟩, ?_, fun w hw => ?_⟩
            · show [W.d (.list (ns.map .str)), W.d (.int (((d' + 1 : Nat) : Int) - 1))] = [W.d (.list (ns.map .str)), W.d (.int ((d' + 1 - 1 : Nat) : Int))]
              rw [show ((d' + 1 : Nat) : Int) - 1 = ((d' + 1 - 1 : Nat) : Int) by omega]
            · obtain ⟨t, rfl, ht⟩ := hw
              wtm_at "m"
              refine ⟨rs ++ [(x, kd, t)], _, _, _, by rw [List.map_append]; rfl, by rw [List.length_append]; simp only [List.length_cons, List.length_nil]; omega, by simp, fun r hr => ?_⟩
              rcases List.mem_append.mp hr with z | z
              · exact hok r z
              · rw [List.mem_singleton.mp z]
                exact ⟨lab_all x hx, hkd, ht.nok, ht.dep, ht.size⟩
      · rintro env1 ⟨rs, q5, q6, q7, rfl, hrs, hne, hok⟩
        obtain ⟨o1, o2, o3⟩ := ofL_ok hok
        have hr3 : rs.length ≤ 3 := by omega
        have hsz : (Rows.ofL rs).size ≤ 3 * (szB d' + 1) := Nat.le_trans o3 (Nat.mul_le_mul_right _ hr3)
        have hk : ∀ s, TkOk ns (d' + 1) (.act s (Rows.ofL rs)) := fun s => ⟨by simp only [Talk.nok]; exact ⟨ofL_ne (hne (by omega)), o1⟩, by simp only [Talk.dep]; omega, by simp only [Talk.size, szB]; omega, fun _ => rfl⟩
        refine dss_one (ds_ret (de_view (by wtm_at "k.fz") ?_))
        wtm_at "w"
        refine ⟨by decide, ?_⟩
        obtain ⟨e, he, hix⟩ := ix_drawn (ds := [.str "say", .str "hear"]) (v := v % 2) (Int.emod_nonneg _ (by decide)) (Int.emod_lt_of_pos _ (by decide))
        refine ⟨_, hix, ?_⟩
        wtm_at "w"
        refine ⟨_, .inl rfl, ?_⟩
        wtm_at "w"
        simp only [List.mem_cons, List.not_mem_nil, or_false] at he
        have hi : ∀ s : Bool, imm (.tuple [.str (atag s), .tuple (rs.map Row.D)]) = true := fun s => by rw [← ofL_D]; exact Talk.imm (.act s (Rows.ofL rs))
        rcases he with rfl | rfl
        · refine ⟨hi true, .act true (Rows.ofL rs), ?_, hk _⟩
          show W.d (.tuple [.str "say", .tuple (rs.map Row.D)]) = W.d (.tuple [.str "say", .tuple (Rows.ofL rs).D])
          rw [ofL_D]
        · refine ⟨hi false, .act false (Rows.ofL rs), ?_, hk _⟩
          show W.d (.tuple [.str "hear", .tuple (rs.map Row.D)]) = W.d (.tuple [.str "hear", .tuple (Rows.ofL rs).D])
          rw [ofL_D]
end
/-! ### _law_table -/
theorem ixN_nat {n k : Nat} (h : k < n) : ixN n (k : Int) = some k := by unfold ixN; simp; omega
theorem ix_nat {ds : List PD} {k : Nat} {d : PD} (h : ds[k]? = some d) : ixW (.d (.list ds)) (.d (.int (k : Int))) = some (.d d) := by
  show (atI ds (k : Int)).map W.d = _
  unfold atI
  rw [ixN_nat (List.getElem?_eq_some_iff.mp h).1]
  exact congrArg (Option.map W.d) h
theorem get_at {n : Str} {t : Talk} : ∀ {tab : List (Str × Talk)}, Tab.get tab n = some t → ∃ j : Nat, tab[j]? = some (n, t)
  | [], h => by cases h
  | p :: r, h => by
    by_cases e : p.1 = n
    · unfold Tab.get at h
      rw [List.find?_cons] at h
      simp only [e, decide_true, Option.map_some, Option.some.injEq] at h
      exact ⟨0, by rw [← e, ← h]; rfl⟩
    · have h2 : Tab.get r n = some t := by
        unfold Tab.get at h ⊢
        rw [List.find?_cons] at h
        simpa only [e, decide_false] using h
      obtain ⟨j, hj⟩ := get_at h2
      exact ⟨j + 1, by rw [List.getElem?_cons_succ]; exact hj⟩
theorem rank_at {p : Str × Talk} : ∀ {tab : List (Str × Talk)} {j : Nat}, (tab.map (·.1)).Nodup → tab[j]? = some p → Tab.rank tab p.1 + j = tab.length
  | [], _, _, h => by cases h
  | q :: r, 0, _, h => by
    rw [List.getElem?_cons_zero] at h
    cases h
    simp [Tab.rank]
  | q :: r, j + 1, nd, h => by
    rw [List.getElem?_cons_succ] at h
    rw [List.map_cons, List.nodup_cons] at nd
    have hne : ¬ q.1 = p.1 := fun e => nd.1 (e ▸ List.mem_map_of_mem (f := fun z : Str × Talk => z.1) (List.mem_of_getElem? h))
    have := rank_at nd.2 h
    simp only [Tab.rank, if_neg hne, List.length_cons]
    omega
theorem get_some {n : Str} : ∀ {tab : Tab}, n ∈ tab.map (·.1) → (tab.get n).isSome = true
  | p :: r, h => by
    by_cases e : p.1 = n
    · unfold Tab.get
      rw [List.find?_cons]
      simp [e]
    · have h2 : n ∈ r.map (·.1) := by
        rcases List.mem_cons.mp h with z | z
        · exact absurd z.symm e
        · exact z
      have := get_some h2
      unfold Tab.get at this ⊢
      rw [List.find?_cons]
      simpa only [e, decide_false] using this
theorem nok_refs {ns : List Str} {tab : Tab} (h : ∀ n ∈ ns, (tab.get n).isSome = true) (t : Talk) : t.nok ns → t.refs tab = true :=
  Talk.rec (motive_1 := fun t => t.nok ns → t.refs tab = true) (motive_2 := fun rs => rs.nok ns → rs.refs tab = true) (fun _ => rfl) (fun b n g => by simp only [Talk.nok] at g; simp only [Talk.refs]; exact h n g)
    (fun s rs ih g => by simp only [Talk.nok] at g; simp only [Talk.refs]; rw [g.1, ih g.2]; rfl) (fun _ => by simp only [Rows.refs])
    (fun l k t rs h1 h2 g => by
      simp only [Rows.nok] at g
      simp only [Rows.refs]
      obtain ⟨g1, g2, g3, g4⟩ := g
      rw [g1, h1 g3, h2 g4]
      cases k with
      | ref b n => simp only [h n (g2 b n rfl), Bool.and_self]
      | _ => rfl) t
/-- the entries drawn so far -/
structure TbD (ns : List Str) (tab : Tab) : Prop where
  at_ : ∀ j p, tab[j]? = some p → ns[j]? = some p.1 ∧ p.2.nok ns ∧ p.2.dep ≤ 2 ∧ p.2.size ≤ 25 ∧ ∀ b m, p.2 = .ref b m → ns[j + 1]? = some m
theorem TbD.add {ns : List Str} {tab : Tab} (h : TbD ns tab) {n : Str} {t : Talk} (hn : ns[tab.length]? = some n) (h1 : t.nok ns) (h2 : t.dep ≤ 2) (h3 : t.size ≤ 25) (h4 : ∀ b m, t = .ref b m → ns[tab.length + 1]? = some m) : TbD ns (tab ++ [(n, t)]) := ⟨fun j p hj => by
  by_cases e : j < tab.length
  · rw [List.getElem?_append_left e] at hj
    exact h.at_ j p hj
  · rw [List.getElem?_append_right (by omega)] at hj
    have e2 : j = tab.length := by
      have := (List.getElem?_eq_some_iff.mp hj).1
      simp at this
      omega
    subst e2
    rw [Nat.sub_self] at hj
    cases hj
    exact ⟨hn, h1, h2, h3, h4⟩⟩
theorem TbD.names {ns : List Str} {tab : Tab} (h : TbD ns tab) : tab.map (·.1) = ns.take tab.length := by
  apply List.ext_getElem?
  intro j
  rw [List.getElem?_map, List.getElem?_take]
  by_cases e : j < tab.length
  · rw [if_pos e, List.getElem?_eq_getElem e]
    exact (h.at_ j _ (List.getElem?_eq_getElem e)).1.symm
  · rw [if_neg e, List.getElem?_eq_none (by omega)]
    rfl
theorem TbD.ok {ns : List Str} {tab : Tab} (h : TbD ns tab) (hn : NmOk ns) (hl : tab.length = ns.length) : tab.Ok := by
  have e : tab.map (·.1) = ns := by rw [h.names, hl, List.take_length]
  have nd : (tab.map (·.1)).Nodup := by rw [e]; exact hn.nd
  have ga : ∀ n t, tab.get n = some t → ∃ j : Nat, tab[j]? = some (n, t) := fun n t => get_at
  have mm : ∀ n ∈ ns, (tab.get n).isSome = true := fun n hm => get_some (by rw [e]; exact hm)
  refine ⟨by rw [hl]; exact hn.len, nd, fun n b m hg => ?_, fun n t hg => ?_, fun n t hg => ?_, fun n t hg => ?_, fun n t hg => ?_⟩
  · obtain ⟨j, hj⟩ := ga n _ hg
    have hm := (h.at_ j _ hj).2.2.2.2 b m rfl
    have hlt := (List.getElem?_eq_some_iff.mp hm).1
    have hx : tab[j + 1]? = some tab[j + 1] := List.getElem?_eq_getElem (by omega)
    have e2 := (h.at_ _ _ hx).1
    rw [hm] at e2
    have r1 := rank_at nd hj
    have r2 := rank_at nd hx
    cases e2
    simp only at r1
    omega
  · obtain ⟨j, hj⟩ := ga n _ hg
    exact nok_refs mm t (h.at_ j _ hj).2.1
  · obtain ⟨j, hj⟩ := ga n _ hg
    exact (h.at_ j _ hj).2.2.1
  · obtain ⟨j, hj⟩ := ga n _ hg
    exact (h.at_ j _ hj).2.2.2.1
  · obtain ⟨j, hj⟩ := ga n _ hg
    exact hn.good n (List.mem_of_getElem? (h.at_ j _ hj).1)
theorem tab_new {tab : Tab} {n : Str} {t : Talk} (h : n ∉ tab.map (·.1)) : pt tab.D n t.D = Tab.D (tab ++ [(n, t)]) := by
  have e : ((tab.D).any fun kv => decide (kv.1 = n)) = false := by
    rw [List.any_eq_false]
    intro q hq
    obtain ⟨p, hp, rfl⟩ := List.mem_map.mp hq
    intro z
    exact h (List.mem_map.mpr ⟨p, hp, of_decide_eq_true z⟩)
  unfold pt
  rw [e]
  unfold Tab.D
  rw [List.map_append]
  rfl
section
variable {P : Program} {w : World} {K : PySem.W.Frag} {mg : Str → Option Value} {base : Heap} {C : Addr} (E : Fs w K mg C)
include E
theorem ok__law_table : FnG P w K mg base "_law_table" 7 (SpDP C (fun _ : Unit => []) (fun _ r => ∃ tab : Tab, r = .tb tab.D ∧ tab.Ok ∧ tab ≠ [])) := by
  obtain ⟨f, fd, F, hm⟩ := E.d__law_table
  refine (st__law_table F (fun _ => rfl) fun c pl I z => ?_).g hm F.kp
  have ok := I.ok
  have hN := I.N
  have hG := I.G
  have hL := I.Lo
  have bi := I.bi E.bi
  have f1 := I.fn (sp := fun C => SpDP C _ _) (ok__law_take E) (by omega)
  have f2 := I.fn (sp := fun C => SpFP C _ _) (ok__law_names E) (by omega)
  have f3 := I.fn (sp := fun C => SpDP C _ _) (ok__law_talk E 2 (by omega)) (by omega)
  show DSs c [some .pool, none, none, none, none] (_ :: _) _
  refine dss_cons (ds_asgF ok hN (by wtm_at "k.mem") hL (by wtm_at "k.mem") (df_callP ok f2 hN LkP.z hG (by wtm_at "k.mem") (da_nil ⟨(), rfl, fun ds hw => ?_⟩)))
  obtain ⟨ns, rfl, hns⟩ := hw
  have hl0 := hns.pos
  have hl1 := hns.len
  have hln : 0 < ((ns.map PyData.str).length : Int) ∧ ((ns.map PyData.str).length : Int) < 1000 := by rw [List.length_map]; omega
  have hli : ((ns.map PyData.str).length : Int) = ns.length := by rw [List.length_map]
  refine ⟨_, by wtm_at "k.up", ?_⟩
  refine dss_cons (ds_newD ok hN (by wtm_at "k.mem") hL (by wtm_at "k.mem") ⟨_, by wtm_at "k.up", ?_⟩)
  refine dss_cons (ds_forR ok bi hG (by wtm_at "k.mem") (de_view (by wtm_at "k.fz") ?_))
  wtm_at "w"
  rw [hli]
  refine ⟨by omega, by omega, fun i env => ∃ (tab : Tab) (q3 q4 : Option Slot), env = [some .pool, some (.l (ns.map .str)), some (.otb tab.D), q3, q4] ∧ tab.length = i ∧ TbD ns tab, ⟨[], _, _, rfl, rfl, ⟨fun j p h => by simp at h⟩⟩, ?_, ?_⟩
  · rintro i env1 hi ⟨tab, q3, q4, rfl, rfl, htb⟩
    have hi : List.length tab < ns.length := by omega
    have hx : ns[List.length tab]? = some ns[List.length tab] := List.getElem?_eq_getElem hi
    obtain ⟨n, hn⟩ : ∃ n, ns[List.length tab]? = some n := ⟨_, hx⟩
    have hix : ixW (.d (.list (ns.map .str))) (.d (.int (List.length tab : Int))) = some (.d (.str n)) := by
      show (atI (ns.map PyData.str) (List.length tab : Int)).map W.d = _
      unfold atI
      have e : ixN (ns.map PyData.str).length (List.length tab : Int) = some (List.length tab) := by unfold ixN; simp; omega
      rw [e]
      simp [hn]
    wtm_at "m"
    refine ⟨⟨ns, hns⟩, rfl, fun w hw => ?_⟩
    obtain ⟨t, rfl, ht⟩ := hw
    refine ⟨Talk.imm t, _, by wtm_at "k.up", ?_⟩
    refine dss_cons (DS.nxI' (Q := fun e => ∃ t : Talk, e = [some .pool, some (.l (ns.map .str)), some (.otb tab.D), some (.r (.d (.int (List.length tab : Int)))), some (.r (.d t.D))] ∧ t.nok ns ∧ t.dep ≤ 2 ∧ t.size ≤ 25 ∧ ∀ b m, t = .ref b m → ns[List.length tab + 1]? = some m) ?_ ?_)
    · have r0 : ∃ t' : Talk, ([some .pool, some (.l (ns.map .str)), some (.otb tab.D), some (.r (.d (.int (List.length tab : Int)))), some (.r (.d t.D))] : En) = [some .pool, some (.l (ns.map .str)), some (.otb tab.D), some (.r (.d (.int (List.length tab : Int)))), some (.r (.d t'.D))] ∧ t'.nok ns ∧ t'.dep ≤ 2 ∧ t'.size ≤ 25 ∧ ∀ b m, t' = .ref b m → ns[List.length tab + 1]? = some m :=
        ⟨t, rfl, ht.nok, ht.dep, ht.size, fun b m e => by have := ht.top rfl; rw [e] at this; cases this⟩
      wtm_at "m"
      refine ⟨⟨9, by decide⟩, rfl, fun w hw => ?_⟩
      obtain ⟨v, rfl, h0, h1⟩ := hw
      wtm_at "m"
      all_goals try exact r0
      rename_i hd
      rw [hli] at hd
      have hd2 : (List.length tab : Int) + 1 < (ns.length : Int) := of_decide_eq_true hd
      have hd : List.length tab + 1 < ns.length := by clear hd; omega
      obtain ⟨n2, hn2⟩ : ∃ n2, ns[List.length tab + 1]? = some n2 := ⟨_, List.getElem?_eq_getElem hd⟩
      have hix2 : ixW (.d (.list (ns.map .str))) (.d (.int ((List.length tab : Int) + 1))) = some (.d (.str n2)) := by
        rw [show ((List.length tab : Int) + 1) = ((List.length tab + 1 : Nat) : Int) by omega]
        exact ix_nat (by rw [List.getElem?_map, hn2]; rfl)
      refine ⟨⟨2, by decide⟩, rfl, fun w hw => ?_⟩
      obtain ⟨u, rfl, g0, g1⟩ := hw
      obtain ⟨e, he, hix3⟩ := ix_drawn (ds := [.str "name", .str "dual"]) g0 g1
      refine ⟨_, hix3, ?_⟩
      have hm : n2 ∈ ns := List.mem_of_getElem? hn2
      have hk : ∀ x, ∃ t' : Talk, ([some .pool, some (.l (ns.map .str)), some (.otb tab.D), some (.r (.d (.int (List.length tab : Int)))), some (.r (.d (Talk.ref x n2).D))] : En) = [some .pool, some (.l (ns.map .str)), some (.otb tab.D), some (.r (.d (.int (List.length tab : Int)))), some (.r (.d t'.D))] ∧ t'.nok ns ∧ t'.dep ≤ 2 ∧ t'.size ≤ 25 ∧ ∀ b m, t' = .ref b m → ns[List.length tab + 1]? = some m :=
        fun x => ⟨.ref x n2, rfl, by simp only [Talk.nok]; exact hm, by simp [Talk.dep], by simp [Talk.size], fun b m e => by cases e; exact hn2⟩
      simp only [List.mem_cons, List.not_mem_nil, or_false] at he
      rcases he with rfl | rfl
      · wtm_at "m"
        exact hk false
      · wtm_at "m"
        exact hk true
    · rintro e ⟨t', rfl, h1, h2, h3, h4⟩
      refine dss_one (ds_putD ok hN (.s (.s .z)) ?_)
      wtm_at "w"
      refine ⟨_, .str n, rfl, ?_, ⟨n, rfl, by rw [Tab.D, List.length_map]; omega, _, by wtm_at "k.up", ?_⟩⟩
      · unfold atI
        have e : ixN (ns.map PyData.str).length (List.length tab : Int) = some (List.length tab) := by unfold ixN; simp; omega
        rw [e]
        simp [hn]
      · have hnm : n ∉ tab.map (·.1) := by
          rw [htb.names]
          intro hm
          obtain ⟨j, hj, e⟩ := List.mem_take_iff_getElem.mp hm
          have := (List.getElem?_inj (i := j) (j := List.length tab) (by omega) hns.nd).mp (by rw [hn, List.getElem?_eq_getElem (by omega), e])
          omega
        exact ⟨tab ++ [(n, t')], _, _, by rw [tab_new hnm], List.length_append, htb.add hn h1 h2 h3 h4⟩
  · rintro env1 ⟨tab, q3, q4, rfl, htl, htb⟩
    refine dss_one (ds_retT ok hN (.s (.s .z)) fun _ => ?_)
    have hl : tab.length = ns.length := by rw [htl]; exact Int.toNat_natCast _
    exact ⟨tab, rfl, htb.ok hns hl, fun e => hl0 (by rw [← hl, e]; rfl)⟩
end
/-! ### _law_payload -/
/-- a comprehension with a test: f says what is kept -/
theorem lc_filt {c : Ctx} {env : En} {tg elt e : Expr} {α : Type} (g : α → PD) (f : α → PD) (p : α → Bool) {xs : List α} {Q : List PD → Prop} (hz : xs.length ≤ 1000000) (h : ∀ a ∈ xs, DG c env tg (g a) fun env2 => DT c env2 e fun k => k = p a ∧ (k = true → DE c env2 elt fun w => w = .d (f a))) (q : Q ((xs.filter p).map f)) : LcJ c env tg [e] elt (xs.map g) Q := by
  refine ⟨fun rest acc => ∃ ys zs, xs = ys ++ zs ∧ rest = zs.map g ∧ acc = (ys.filter p).map f, ⟨[], xs, rfl, rfl, rfl⟩, fun d rest acc _ ⟨ys, zs, e1, e2, e3⟩ => ?_, fun acc ⟨ys, zs, e1, e2, e3⟩ => ?_⟩
  · cases zs with
    | nil => cases e2
    | cons z zs =>
      cases e2
      have hl : acc.length < 1000000 := by
        rw [e3, List.length_map]
        have h1 : (ys.filter p).length ≤ ys.length := List.length_filter_le p ys
        have := congrArg List.length e1
        simp at this
        omega
      intro X hX B Z H S fp σ v E r Q' q'
      refine h z (by rw [e1]; simp) X hX B Z H S fp σ v E r Q' fun env' σ' hP => q' env' σ' ?_
      show DT c env' e _
      intro X hX B Z H S fp σ E Q2 q2
      refine hP X hX B Z H S fp σ E Q2 fun b H' S' ⟨hb, hd⟩ => q2 b H' S' ⟨fun hk => ⟨hl, (hd hk).imp fun w hw => ⟨_, hw, ys ++ [z], zs, by rw [e1]; simp, rfl, ?_⟩⟩, fun hk => ⟨ys ++ [z], zs, by rw [e1]; simp, rfl, ?_⟩⟩
      · rw [e3, List.filter_append, List.map_append, List.filter_cons_of_pos (by rw [← hb]; exact hk)]
        rfl
      · rw [e3, List.filter_append, List.map_append, List.filter_cons_of_neg (by rw [← hb, hk]; decide)]
        simp
  · cases zs with
    | cons z zs => cases e2
    | nil =>
      rw [List.append_nil] at e1
      rw [e3, ← e1]
      exact q
structure PyA where
  tab : Tab
  l : Lc
  k : Nat
  hl : LcOk tab k l
  hk : k ≤ 100
  kd : Kind
  hkd : kd.ok tab = true
structure SyA' where
  tab : Tab
  l : Lc
  k : Nat
  hl : LcOk tab k l
  hk : k ≤ 100
  p : Pl
  t : Talk
  rs : Rows
  hm : gt l.m p ≠ none
  ht : gt l.t p = some t
  hd : headM tab t = .act true rs
theorem rows_nth {tab : Tab} : ∀ {rs : Rows} {d : PD}, rs.refs tab = true → d ∈ rs.D → ∃ (x : Str) (k : Kind) (t : Talk), d = .tuple [.str x, k.D, t.D] ∧ gs x = true ∧ k.ok tab = true
  | .nil, d, _, h => by simp [Rows.D] at h
  | .cons l k t rs, d, hr, h => by
    rw [Rows.refs_cons] at hr
    simp only [Bool.and_eq_true] at hr
    simp only [Rows.D, List.mem_cons] at h
    rcases h with z | z
    · exact ⟨l, k, t, z, hr.1.1.1, hr.1.1.2⟩
    · exact rows_nth hr.2 z
theorem rows_len : ∀ rs : Rows, rs.D.length ≤ rs.size
  | .nil => by simp [Rows.D]
  | .cons l k t rs => by
    have := rows_len rs
    simp only [Rows.D, List.length_cons, Rows.size]
    omega
def endD (p : Pl) : PD := .tuple [.str "end", .int p.1, .int p.2]
section
variable {P : Program} {w : World} {K : PySem.W.Frag} {mg : Str → Option Value} {base : Heap} {C : Addr} (E : Fs w K mg C)
include E
theorem ok__law_payload : FnG P w K mg base "_law_payload" 12 (SpDP C (fun z : PyA => [.tb z.tab.D, .st z.l.D, .d z.kd.D]) (fun z r => ∃ d, r = .d d ∧ payB d = true)) := by
  obtain ⟨f, fd, F, hm⟩ := E.d__law_payload
  refine (st__law_payload F (fun _ => rfl) fun c pl I z => ?_).g hm F.kp
  have ok := I.ok
  have hN := I.N
  have hG := I.G
  have hL := I.Lo
  have bi := I.bi E.bi
  have f1 := I.fn (sp := fun C => SpDP C _ _) (ok__law_take E) (by omega)
  have f2 := I.fn (sp := fun C => SpD C _ _) (ok__law_is_subtalk E) (by omega)
  obtain ⟨tab, l, k, hl, hk, kd, hkd⟩ := z
  obtain ⟨l1, l2, l3, l4, l5⟩ := hl.small hk
  cases kd with
  | non =>
    show DSs c [some .pool, some (.r (.tb tab.D)), some (.r (.st l.D)), some (.r (.d .none)), none, none, none, none] (_ :: _) _
    wtm_at "m"
    rfl
  | int =>
    show DSs c [some .pool, some (.r (.tb tab.D)), some (.r (.st l.D)), some (.r (.d (.str "int"))), none, none, none, none] (_ :: _) _
    wtm_at "m"
    refine ⟨⟨6, by decide⟩, rfl, fun w hw => ?_⟩
    obtain ⟨v, rfl, h0, h1⟩ := hw
    obtain ⟨d, hd, hix⟩ := ix_drawn (ds := [.int 0, .int 1, .int 7, .int 65535, .int 4096, .int 300]) h0 h1
    refine ⟨_, hix, d, rfl, ?_⟩
    simp only [List.mem_cons, List.not_mem_nil, or_false] at hd
    rcases hd with rfl | rfl | rfl | rfl | rfl | rfl <;> rfl
  | bool =>
    show DSs c [some .pool, some (.r (.tb tab.D)), some (.r (.st l.D)), some (.r (.d (.str "bool"))), none, none, none, none] (_ :: _) _
    wtm_at "m"
    refine ⟨⟨2, by decide⟩, rfl, fun w hw => ?_⟩
    obtain ⟨v, rfl, h0, h1⟩ := hw
    wtm_at "m"
    rfl
  | ref y n =>
    have hsh := Kind.shaped hl.ok hkd
    have hlit : SeqAt.shaped (.str "int") = true ∧ SeqAt.shaped (.str "bool") = true := ⟨by decide +kernel, by decide +kernel⟩
    have o1 : eqOk (.tuple [.str (rtag y), .str n]) (.str "int") = true := by
      simp only [eqOk]
      rw [show SeqAt.shaped (.tuple [.str (rtag y), .str n]) = true from hsh, hlit.1]
      simp
    have o2 : eqOk (.tuple [.str (rtag y), .str n]) (.str "bool") = true := by
      simp only [eqOk]
      rw [show SeqAt.shaped (.tuple [.str (rtag y), .str n]) = true from hsh, hlit.2]
      simp
    show DSs c [some .pool, some (.r (.tb tab.D)), some (.r (.st l.D)), some (.r (.d (.tuple [.str (rtag y), .str n]))), none, none, none, none] (_ :: _) _
    refine dss_cons (DS.nxI' (Q := fun e => e = [some .pool, some (.r (.tb tab.D)), some (.r (.st l.D)), some (.r (.d (.tuple [.str (rtag y), .str n]))), none, none, none, none]) (by wtm_at "m"; rfl) fun e he => ?_)
    subst he
    refine dss_cons (DS.nxI' (Q := fun e => e = [some .pool, some (.r (.tb tab.D)), some (.r (.st l.D)), some (.r (.d (.tuple [.str (rtag y), .str n]))), none, none, none, none]) (by wtm_at "m"; rfl) fun e he => ?_)
    subst he
    refine dss_cons (DS.nxI' (Q := fun e => e = [some .pool, some (.r (.tb tab.D)), some (.r (.st l.D)), some (.r (.d (.tuple [.str (rtag y), .str n]))), none, none, none, none]) (by wtm_at "m"; rfl) fun e he => ?_)
    subst he
    refine dss_cons (lc_S .l I (by wtm_at "k.mem") (by wtm_at "k.mem") ["_law_place", "_law_state"] ["_law_place"] [] [("_law_place", 7)] (by decide +kernel) (by decide +kernel) (by wtm_at "k.mk") fun cb Ib => ?_)
    wtm_at "w"
    refine ⟨_, rfl, fun ps hps hpk => ⟨_, rfl, ?_⟩⟩
    have hz : ∀ p ∈ ps, gt l.m p ≠ none := by
      intro p hp
      have := hpk p hp
      rw [Lc.D_m, List.map_map] at this
      obtain ⟨q, hq, e⟩ := List.mem_map.mp this
      exact fun z => gt_none.mp z q hq e
    rw [Lc.D_m, List.length_map] at hps
    have okb := Ib.ok
    have hNb := Ib.N
    have hGb := Ib.G
    have hLb := Ib.Lo
    refine lc_filt pd endD (fun p => decide (gt l.m p = some "open")) (by omega) (fun p hp => ?_) ?_
    · obtain ⟨i, j⟩ := p
      obtain ⟨mk, hmk⟩ := Option.ne_none_iff_exists'.mp (hz (i, j) hp)
      have x1 : ixW (.dt l.D.m) (.d (.tuple [.int i, .int j])) = some (.d (.str mk)) := ix_dt (by rw [Lc.gt_m, hmk]; rfl)
      have hq : PyData.eqv (.str mk) (.str "open") = decide (gt l.m (i, j) = some "open") := by
        rw [eqv_str, hmk]
        simp
      show DG cb _ _ (.tuple [.int i, .int j]) _
      wtm_at "w"
      refine ⟨hq, fun _ => ?_⟩
      wtm_at "w"
      rfl
    · refine ⟨_, by wtm_at "k.up", ?_⟩
      have hpo : ∀ p ∈ ps.filter (fun p => decide (gt l.m p = some "open")), gt l.m p ≠ none := fun p hp => hz p (List.mem_filter.mp hp).1
      have hpl : (ps.filter (fun p => decide (gt l.m p = some "open"))).length ≤ 500 := by have := List.length_filter_le (fun p => decide (gt l.m p = some "open")) ps; omega
      generalize ps.filter (fun p => decide (gt l.m p = some "open")) = es at hpo hpl ⊢
      cases es with
      | nil =>
        wtm_at "m"
        rfl
      | cons e0 es =>
        refine dss_cons (DS.nxI' (Q := fun e => e = [some .pool, some (.r (.tb tab.D)), some (.r (.st l.D)), some (.r (.d (.tuple [.str (rtag y), .str n]))), some (.l ((e0 :: es).map endD)), none, none, none]) (by wtm_at "m"; rfl) fun e he => ?_)
        subst he
        refine dss_cons (ds_forR ok bi hG (by wtm_at "k.mem") (de_view (by wtm_at "k.fz") ?_))
        wtm_at "w"
        refine ⟨by decide, by decide, fun i env => ∃ (q5 q6 : Option Slot), env = [some .pool, some (.r (.tb tab.D)), some (.r (.st l.D)), some (.r (.d (.tuple [.str (rtag y), .str n]))), some (.l ((e0 :: es).map endD)), q5, q6, none], ⟨_, _, rfl⟩, ?_, ?_⟩
        · rintro i env1 hi ⟨q5, q6, rfl⟩
          have hln : 0 < (((e0 :: es).map endD).length : Int) ∧ (((e0 :: es).map endD).length : Int) < 1000 := by rw [List.length_map]; simp only [List.length_cons] at hpl ⊢; omega
          wtm_at "m"
          refine ⟨⟨(((e0 :: es).map endD).length : Int), hln⟩, rfl, fun w hw => ?_⟩
          obtain ⟨v, rfl, h0, h1⟩ := hw
          obtain ⟨d, hd, hix⟩ := ix_drawn (ds := (e0 :: es).map endD) h0 h1
          obtain ⟨⟨i, j⟩, hp, rfl⟩ := List.mem_map.mp hd
          refine ⟨_, hix, rfl, _, by wtm_at "k.up", ?_⟩
          obtain ⟨t, ht, hU⟩ := hl.t _ (hpo _ hp)
          have x2 : ixW (.dt l.D.t) (.d (.tuple [.int i, .int j])) = some (.d t.D) := ix_dt (by rw [Lc.gt_t, ht]; rfl)
          show DSs c [some .pool, some (.r (.tb tab.D)), some (.r (.st l.D)), some (.r (.d (.tuple [.str (rtag y), .str n]))), some (.l ((e0 :: es).map endD)), _, some (.r (.d (.tuple [.str "end", .int i, .int j]))), none] _ _
          wtm_at "m"
          refine ⟨⟨tab, t, .ref y n, hU, (TU.kind hl.ok hkd rfl).1⟩, rfl, fun w hw => ?_⟩
          obtain ⟨bb, rfl⟩ := hw
          cases bb with
          | true =>
            wtm_at "m"
            rfl
          | false =>
            wtm_at "m"
            exact ⟨_, _, rfl⟩
        · rintro env1 ⟨q5, q6, rfl⟩
          refine dss_one (ds_ret (de_view (by wtm_at "k.fz") ?_))
          wtm_at "w"
          exact ⟨.d (endD e0), ix_l0, rfl, endD e0, rfl, rfl⟩
theorem ok__law_say : FnG P w K mg base "_law_say" 13 (SpDP C (fun z : SyA' => [.tb z.tab.D, .st z.l.D, .d (.tuple [.int z.p.1, .int z.p.2])]) (fun z r => ∃ e : Ev, r = .d e.D ∧ e.gen z.tab)) := by
  obtain ⟨f, fd, F, hm⟩ := E.d__law_say
  refine (st__law_say F (fun _ => rfl) fun c pl I z => ?_).g hm F.kp
  have ok := I.ok
  have hN := I.N
  have hG := I.G
  have hL := I.Lo
  have bi := I.bi E.bi
  have f1 := I.fn (sp := fun C => SpDP C _ _) (ok__law_take E) (by omega)
  have f2 := I.fn (sp := fun C => SpDP C _ _) (ok__law_payload E) (by omega)
  have f3 := I.fn (sp := fun C => SpD C _ _) (ok__law_head E 3) (by omega)
  obtain ⟨tab, l, k, hl, hk, ⟨i, j⟩, t, rs, hm, ht, hd⟩ := z
  obtain ⟨t', ht', hU⟩ := hl.t _ hm
  obtain rfl : t = t' := Option.some.inj (ht.symm.trans ht')
  have x2 : ixW (.dt l.D.t) (.d (.tuple [.int i, .int j])) = some (.d t.D) := ix_dt (by rw [Lc.gt_t, ht]; rfl)
  have hH := hU.head
  rw [hd] at hH
  have hrf := hH.rf
  simp only [Talk.refs, Bool.and_eq_true] at hrf
  have hsz := hH.size
  simp only [Talk.size] at hsz
  have hlen := rows_len rs
  have hl0 : 0 < (rs.D.length : Int) ∧ (rs.D.length : Int) < 1000 := by
    have : rs.D.length ≠ 0 := by
      have h1 := hrf.1
      cases rs with
      | nil => cases h1
      | cons l k t rs => simp [Rows.D]
    omega
  show DSs c [some .pool, some (.r (.tb tab.D)), some (.r (.st l.D)), some (.r (.d (.tuple [.int i, .int j]))), none, none] (_ :: _) _
  wtm_at "m"
  refine ⟨⟨(tab, t), hU.toTA, hU.toTA.rk⟩, rfl, fun w hw => ?_⟩
  obtain rfl : w = .d (Talk.act true rs).D := hw.trans (by rw [hd])
  refine ⟨Talk.imm _, _, by wtm_at "k.up", ?_⟩
  show DSs c [some .pool, some (.r (.tb tab.D)), some (.r (.st l.D)), some (.r (.d (.tuple [.int i, .int j]))), some (.r (.d (.tuple [.str "say", .tuple rs.D]))), none] _ _
  wtm_at "m"
  refine ⟨⟨(rs.D.length : Int), hl0⟩, rfl, fun w hw => ?_⟩
  obtain ⟨v, rfl, g0, g1⟩ := hw
  obtain ⟨d, hdm, hix⟩ : ∃ d ∈ rs.D, ixW (.d (.tuple rs.D)) (.d (.int v)) = some (.d d) := ix_drawn g0 g1
  obtain ⟨x, kd, u, rfl, hx, hkd⟩ := rows_nth hrf.2 hdm
  have hki : imm kd.D = true := by cases kd <;> simp [Kind.D, K49.imm, immAll]
  refine ⟨_, hix, by show imm (.tuple [.str x, kd.D, u.D]) = true; simp [K49.imm, immAll, hki, Talk.imm u], _, by wtm_at "k.up", ?_⟩
  wtm_at "w"
  refine ⟨⟨tab, l, k, hl, hk, kd, hkd⟩, rfl, fun w hw => ?_⟩
  obtain ⟨d, rfl, hdp⟩ := hw
  wtm_at "w"
  exact ⟨.say i j x d, rfl, hx, hdp⟩
end
/-! ### _law_event -/
theorem at_drawn {ds : List PD} {v : Int} (h0 : 0 ≤ v) (h1 : v < ds.length) : ∃ d ∈ ds, atI ds v = some d := by
  obtain ⟨n, rfl⟩ := Int.eq_ofNat_of_zero_le h0
  have hn : n < ds.length := by omega
  refine ⟨ds[n], List.getElem_mem hn, ?_⟩
  unfold atI
  rw [ixN_nat hn]
  simp [hn]
theorem gen_imm {tab : Tab} {e : Ev} (h : e.gen tab) : imm e.D = true := by
  cases e with
  | say i j x d => have := (payB_lay h.2).2.2; simp [Ev.D, Ev.nm, Ev.ps, K49.imm, immAll, this]
  | hear i j x d => have := (payB_lay h.2).2.2; simp [Ev.D, Ev.nm, Ev.ps, K49.imm, immAll, this]
  | become a x => rcases h with rfl | rfl <;> simp [Ev.D, Ev.nm, Ev.ps, K49.imm, immAll]
  | _ => simp [Ev.D, Ev.nm, Ev.ps, K49.imm, immAll]
structure VnA where
  m : MvA
  ne : m.tab ≠ []
section
variable {P : Program} {w : World} {K : PySem.W.Frag} {mg : Str → Option Value} {base : Heap} {C : Addr} (E : Fs w K mg C)
include E
theorem ok__law_event : FnG P w K mg base "_law_event" 14 (SpDP C (fun z : VnA => [.tb z.m.tab.D, .st z.m.l.D]) (fun z r => ∃ d, r = .d d ∧ GEv z.m.tab d)) := by
  obtain ⟨f, fd, F, hm⟩ := E.d__law_event
  refine (st__law_event F (fun _ => rfl) fun c pl I z => ?_).g hm F.kp
  have ok := I.ok
  have hN := I.N
  have hG := I.G
  have hL := I.Lo
  have bi := I.bi E.bi
  have f1 := I.fn (sp := fun C => SpDP C _ _) (ok__law_take E) (by omega)
  have f2 := I.fn (sp := fun C => SpDP C _ _) (ok__law_say E) (by omega)
  have f3 := I.fn (sp := fun C => SpF C _ _) (ok__law_moves E) (by omega)
  obtain ⟨⟨tab, l, k, hl, hk, hgs⟩, hne⟩ := z
  obtain ⟨l1, l2, l3, l4, l5⟩ := hl.small hk
  have hl3 := hl.ok.len
  have htl : 0 < (tab.D.length : Int) ∧ (tab.D.length : Int) < 1000 := by
    have : List.length tab ≠ 0 := fun h => hne (List.length_eq_zero_iff.mp h)
    rw [Tab.D, List.length_map]
    omega
  let R : PD → Prop := fun d => GEv tab d
  let κ0 : Kt := ⟨fun _ => ∃ d, W.d .none = .d d ∧ GEv tab d, fun r _ => ∃ d, r = .d d ∧ GEv tab d, fun ds _ => ∃ d, W.d (.list ds) = .d d ∧ GEv tab d, fun _ => False, fun _ => False⟩
  cases ho : l.o with
  | cons p o =>
    obtain ⟨i, j⟩ := p
    have t0 : truW (.d (.list l.D.o)) = some true := by show truW (.d (.list (l.o.map pd))) = _; rw [ho]; rfl
    have t1 : ixW (.d (.list l.D.o)) (.d (.int 0)) = some (.d (.tuple [.int i, .int j])) := by show ixW (.d (.list (l.o.map pd))) _ = _; rw [ho]; exact ix_l0
    show DSs c [some .pool, some (.r (.tb tab.D)), some (.r (.st l.D)), none, none, none, none, none, none, none, none] (_ :: _) _
    wtm_at "w"
    exact .ev (e := .drop i j) trivial
  | nil =>
    have t0 : truW (.d (.list l.D.o)) = some false := by show truW (.d (.list (l.o.map pd))) = _; rw [ho]; rfl
    show DSs c [some .pool, some (.r (.tb tab.D)), some (.r (.st l.D)), none, none, none, none, none, none, none, none] (_ :: _) _
    refine dss_cons (DS.nxI' (Q := fun e => e = [some .pool, some (.r (.tb tab.D)), some (.r (.st l.D)), none, none, none, none, none, none, none, none]) (by wtm_at "w"; rfl) fun e he => ?_)
    subst he
    refine dss_cons (lc_R I bi (by wtm_at "k.mem") (by wtm_at "k.mem") (by wtm_at "k.mem") ["_law_actor", "_law_state"] ["_law_actor"] [] [("_law_actor", 10)] (by decide +kernel) (by decide +kernel) (by wtm_at "k.mk") fun cb Ib => ?_)
    wtm_at "w"
    have okb := Ib.ok
    have hNb := Ib.N
    have hGb := Ib.G
    have hLb := Ib.Lo
    have hlf : l.D.f.length = l.f.length := by show (l.f.map PyData.bool).length = _; rw [List.length_map]
    refine ⟨l.D.f.length, rfl, by omega, ?_⟩
    refine lc_filt (fun i : Nat => PyData.int i) (fun i : Nat => PyData.int i) (fun i => !(l.f[i]?.getD false)) (by rw [List.length_range]; omega) (fun a ha => ?_) ?_
    · have ha : a < l.f.length := by have := List.mem_range.mp ha; omega
      have hat : ixW (.d (.list l.D.f)) (.d (.int (a : Int))) = some (.d (.bool (l.f[a]?.getD false))) := by
        rw [List.getElem?_eq_getElem ha]
        exact ix_nat (by show (l.f.map PyData.bool)[a]? = _; rw [List.getElem?_map, List.getElem?_eq_getElem ha]; rfl)
      wtm_at "w"
      refine ⟨rfl, fun _ => ?_⟩
      wtm_at "w"
      rfl
    · refine ⟨_, by wtm_at "k.up", ?_⟩
      have hal : ((List.range l.D.f.length).filter fun i => !(l.f[i]?.getD false)).length ≤ 500 := by
        have := List.length_filter_le (fun i => !(l.f[i]?.getD false)) (List.range l.D.f.length)
        rw [List.length_range] at this
        omega
      generalize ((List.range l.D.f.length).filter fun i => !(l.f[i]?.getD false)) = as at hal ⊢
      have hA : ∀ d ∈ as.map (fun i : Nat => PyData.int (i : Int)), ∃ a : Int, d = .int a := by
        intro d hd
        obtain ⟨i, _, rfl⟩ := List.mem_map.mp hd
        exact ⟨_, rfl⟩
      have hAl : (as.map (fun i : Nat => PyData.int (i : Int))).length ≤ 500 := by rw [List.length_map]; exact hal
      generalize as.map (fun i : Nat => PyData.int (i : Int)) = A at hA hAl ⊢
      wtm_at "m"
      refine ⟨⟨16, by decide⟩, rfl, fun w hw => ?_⟩
      obtain ⟨v, rfl, h0, h1⟩ := hw
      refine ⟨rfl, _, by wtm_at "k.up", ?_⟩
      have hlm : l.D.m.length = l.m.length := by rw [Lc.D_m, List.length_map]
      refine dss_cons (DS.nxI' (Q := fun e => ∃ q8, e = [some .pool, some (.r (.tb tab.D)), some (.r (.st l.D)), some (.l A), some (.r (.d (.int v))), none, none, none, q8, none, none]) ?_ ?_)
      · wtm_at "m"
        all_goals first | exact ⟨_, rfl⟩ | skip
        all_goals
          refine ⟨by decide, ?_⟩
          obtain ⟨e, he, hix⟩ := ix_drawn (ds := [.str "name", .str "dual"]) (v := v % 2) (Int.emod_nonneg _ (by decide)) (Int.emod_lt_of_pos _ (by decide))
          refine ⟨_, hix, ?_⟩
          have hA0 : A ≠ [] := fun h => by have := ‹(!A.isEmpty) = true›; rw [h] at this; cases this
          have hAn : 0 < (A.length : Int) ∧ (A.length : Int) < 1000 := by have := List.length_pos_iff.mpr hA0; omega
          wtm_at "m"
          refine ⟨_, rfl, ?_⟩
          wtm_at "w"
          refine ⟨⟨(tab.D.length : Int), htl⟩, rfl, fun w hw => ?_⟩
          obtain ⟨u, rfl, g0, g1⟩ := hw
          obtain ⟨d2, hd2, hix2⟩ := ix_drawn (ds := tab.D.map fun p => .str p.1) g0 (by rw [List.length_map]; exact g1)
          obtain ⟨q, hq, rfl⟩ := List.mem_map.mp hd2
          have hnm : (tab.get q.1).isSome = true := by
            obtain ⟨p, hp, rfl⟩ := List.mem_map.mp hq
            exact get_some (List.mem_map.mpr ⟨p, hp, rfl⟩)
          refine ⟨_, hix2, ?_⟩
          obtain ⟨x, rfl⟩ : ∃ x, e = .str (rtag x) := by
            simp only [List.mem_cons, List.not_mem_nil, or_false] at he
            rcases he with rfl | rfl
            · exact ⟨false, rfl⟩
            · exact ⟨true, rfl⟩
          wtm_at "m"
          refine ⟨⟨(A.length : Int), hAn⟩, rfl, fun w hw => ?_⟩
          obtain ⟨u2, rfl, g20, g21⟩ := hw
          obtain ⟨d3, hd3, hat3⟩ := at_drawn g20 g21
          obtain ⟨a, rfl⟩ := hA d3 hd3
          refine ⟨_, _, rfl, hat3, _, rfl, ?_⟩
          wtm_at "m"
          refine ⟨by first | exact .inl ⟨by omega, by decide, by omega⟩ | exact .inl ⟨by omega, by omega⟩ | exact .inr ⟨by omega, by decide⟩ | (unfold CDiv; omega), ?_⟩
          wtm_at "m"
          exact .ev (e := .opn a _ _ x q.1) hnm
      · rintro e ⟨q8, rfl⟩
        refine dss_cons (DS.nxI' (Q := fun e => e = [some .pool, some (.r (.tb tab.D)), some (.r (.st l.D)), some (.l A), some (.r (.d (.int v))), none, none, none, q8, none, none]) ?_ ?_)
        · wtm_at "m"
          all_goals first | rfl | skip
          have hA0 : A ≠ [] := fun h => by have := ‹(!A.isEmpty) = true›; rw [h] at this; cases this
          refine ⟨⟨3, by decide⟩, rfl, fun w hw => ?_⟩
          obtain ⟨u, rfl, g0, g1⟩ := hw
          obtain ⟨e, he, hix⟩ := ix_drawn (ds := [.str "become", .str "done", .str "fall"]) g0 g1
          refine ⟨_, hix, ?_⟩
          obtain ⟨a, hat⟩ : ∃ a : Int, atI A (-1) = some (.int a) := by
            obtain ⟨n, hn⟩ : ∃ n, A.length = n + 1 := ⟨A.length - 1, by have := List.length_pos_iff.mpr hA0; omega⟩
            obtain ⟨a, ha⟩ := hA A[n] (List.getElem_mem (by omega))
            refine ⟨a, ?_⟩
            unfold atI
            have e : ixN A.length (-1) = some n := by rw [hn]; unfold ixN; simp; omega
            rw [e]
            show A[n]? = _
            rw [List.getElem?_eq_getElem (by omega), ha]
          obtain ⟨x, rfl⟩ : ∃ x, e = .str x := by
            simp only [List.mem_cons, List.not_mem_nil, or_false] at he
            rcases he with rfl | rfl | rfl <;> exact ⟨_, rfl⟩
          wtm_at "m"
          refine ⟨_, _, rfl, hat, ?_⟩
          wtm_at "m"
          refine ⟨⟨9, by decide⟩, rfl, fun w hw => ?_⟩
          obtain ⟨u9, rfl, k0, k1⟩ := hw
          have fin : ∀ b : Bool, ∃ d, W.d (.tuple (cutD [.str x, .int a, .str "A"] none (some (2 + (if b then 1 else 0))))) = .d d ∧ GEv tab d := by
            simp only [List.mem_cons, List.not_mem_nil, or_false, PyData.str.injEq] at he
            intro b
            cases b with
            | true =>
              show ∃ d, W.d (.tuple [.str x, .int a, .str "A"]) = .d d ∧ GEv tab d
              rcases he with rfl | rfl | rfl
              · exact ⟨_, rfl, .ev (e := .become a (.str "A")) (.inl rfl)⟩
              · exact ⟨_, rfl, .dn⟩
              · exact ⟨_, rfl, .fl⟩
            | false =>
              show ∃ d, W.d (.tuple [.str x, .int a]) = .d d ∧ GEv tab d
              rcases he with rfl | rfl | rfl
              · exact ⟨_, rfl, .sh⟩
              · exact ⟨_, rfl, .ev (e := .done a) trivial⟩
              · exact ⟨_, rfl, .ev (e := .fall a) trivial⟩
          wtm_at "w"
          cases hb : PyData.eqv (.int u9) (.int 0) with
          | true =>
            refine ⟨_, 1, rfl, rfl, ?_⟩
            wtm_at "w"
            obtain ⟨d, e, hg⟩ := fin true
            cases e
            exact hg
          | false =>
            refine ⟨_, 0, rfl, rfl, ?_⟩
            wtm_at "w"
            obtain ⟨d, e, hg⟩ := fin false
            cases e
            exact hg
        · rintro e rfl
          refine dss_cons (lc_S .l I (by wtm_at "k.mem") (by wtm_at "k.mem") ["_law_place", "_law_state"] ["_law_place"] [] [("_law_place", 9)] (by decide +kernel) (by decide +kernel) (by wtm_at "k.mk") fun cb Ib => ?_)
          wtm_at "w"
          refine ⟨_, rfl, fun ps hps hpk => ⟨_, rfl, ?_⟩⟩
          have hz : ∀ p ∈ ps, gt l.m p ≠ none := by
            intro p hp
            have := hpk p hp
            rw [Lc.D_m, List.map_map] at this
            obtain ⟨q, hq, e⟩ := List.mem_map.mp this
            exact fun z => gt_none.mp z q hq e
          rw [Lc.D_m, List.length_map] at hps
          have okb := Ib.ok
          have hNb := Ib.N
          have hGb := Ib.G
          have hLb := Ib.Lo
          refine lc_filt pd pd (fun p => decide (gt l.m p = some "open")) (by omega) (fun p hp => ?_) ?_
          · obtain ⟨i, j⟩ := p
            obtain ⟨mk, hmk⟩ := Option.ne_none_iff_exists'.mp (hz (i, j) hp)
            have x1 : ixW (.dt l.D.m) (.d (.tuple [.int i, .int j])) = some (.d (.str mk)) := ix_dt (by rw [Lc.gt_m, hmk]; rfl)
            have hq : PyData.eqv (.str mk) (.str "open") = decide (gt l.m (i, j) = some "open") := by
              rw [eqv_str, hmk]
              simp
            show DG cb _ _ (.tuple [.int i, .int j]) _
            wtm_at "w"
            refine ⟨hq, fun _ => ?_⟩
            wtm_at "w"
            rfl
          · refine ⟨_, by wtm_at "k.up", ?_⟩
            have hpl : (ps.filter (fun p => decide (gt l.m p = some "open"))).length ≤ 500 := by have := List.length_filter_le (fun p => decide (gt l.m p = some "open")) ps; omega
            have hB : ∀ d ∈ (ps.filter (fun p => decide (gt l.m p = some "open"))).map pd, ∃ i j : Int, d = .tuple [.int i, .int j] := by
              intro d hd
              obtain ⟨p, _, rfl⟩ := List.mem_map.mp hd
              exact ⟨_, _, rfl⟩
            have hBl : ((ps.filter (fun p => decide (gt l.m p = some "open"))).map pd).length ≤ 500 := by rw [List.length_map]; exact hpl
            generalize (ps.filter (fun p => decide (gt l.m p = some "open"))).map pd = B at hB hBl ⊢
            refine dss_cons (DS.nxI' (Q := fun e => ∃ q9, e = [some .pool, some (.r (.tb tab.D)), some (.r (.st l.D)), some (.l A), some (.r (.d (.int v))), some (.l B), none, none, q8, q9, none]) ?_ ?_)
            · wtm_at "m"
              all_goals first | exact ⟨_, rfl⟩ | skip
              have hB0 : B ≠ [] := fun h => by have := ‹(!B.isEmpty) = true›; rw [h] at this; cases this
              have hBn : 0 < (B.length : Int) ∧ (B.length : Int) < 1000 := by have := List.length_pos_iff.mpr hB0; omega
              refine ⟨⟨(B.length : Int), hBn⟩, rfl, fun w hw => ?_⟩
              obtain ⟨u, rfl, g0, g1⟩ := hw
              obtain ⟨d, hd, hix⟩ := ix_drawn g0 g1
              obtain ⟨i, j, rfl⟩ := hB d hd
              refine ⟨_, hix, rfl, _, by wtm_at "k.up", ?_⟩
              wtm_at "m"
              exact .ev (e := .drop i j) trivial
            · rintro e ⟨q9, rfl⟩
              refine dss_cons (ds_asgF ok hN (by wtm_at "k.mem") hL (by wtm_at "k.mem") (df_call ok f3 hG (by wtm_at "k.mem") ?_))
              wtm_at "w"
              refine ⟨⟨tab, l, k, hl, hk, hgs⟩, rfl, fun ms hms => ?_⟩
              obtain ⟨hml, hms⟩ := hms
              refine ⟨_, by wtm_at "k.up", ?_⟩
              refine dss_cons (DS.nxI' (Q := fun e => e = [some .pool, some (.r (.tb tab.D)), some (.r (.st l.D)), some (.l A), some (.r (.d (.int v))), some (.l B), some (.l ms), none, q8, q9, none] ∧ ms ≠ []) ?_ ?_)
              · wtm_at "m"
                · exact .ev (e := .become 0 (.str "Main")) (.inr rfl)
                · refine ⟨rfl, fun h => ?_⟩
                  have := ‹(!!ms.isEmpty) = false›
                  rw [h] at this
                  cases this
              · rintro e ⟨rfl, hms0⟩
                have hMn : 0 < (ms.length : Int) ∧ (ms.length : Int) < 1000 := by have := List.length_pos_iff.mpr hms0; omega
                wtm_at "m"
                refine ⟨⟨(ms.length : Int), hMn⟩, rfl, fun w hw => ?_⟩
                obtain ⟨u, rfl, g0, g1⟩ := hw
                obtain ⟨d, hd, hix⟩ := ix_drawn g0 g1
                refine ⟨_, hix, ?_⟩
                rcases hms d hd with ⟨ev, rfl, hgen, hnm⟩ | ⟨i, j, t, rs, rfl, hmo, hto, hhd⟩
                · have hi : immW (.d ev.D) = true := gen_imm hgen
                  have h0 : ixW (.d ev.D) (.d (.int 0)) = some (.d (.str ev.nm)) := ix_t0
                  have hb : PyData.eqv (.str ev.nm) (.str "say") = false := by rw [eqv_str]; exact decide_eq_false hnm
                  refine ⟨hi, _, by wtm_at "k.up", ?_⟩
                  wtm_at "m"
                  exact .ev hgen
                · refine ⟨rfl, _, by wtm_at "k.up", ?_⟩
                  wtm_at "m"
                  refine ⟨⟨tab, l, k, hl, hk, (i, j), t, rs, by rw [hmo]; simp, hto, hhd⟩, rfl, fun w hw => ?_⟩
                  obtain ⟨ev, rfl, hgen⟩ := hw
                  exact ⟨gen_imm hgen, _, rfl, .ev hgen⟩
end
/-! ### _law_other -/
structure OtA where
  tab : Tab
  ok : tab.Ok
  e : Ev
  hg : e.gen tab
/-- one of the values that may stand at any place -/
def valL : List PD := [.int 0, .int 1, .int 2, .int (-1), .bool true, .none, .str "go", .str "a", .str "int", .int 65536, .tuple [.str "end", .int 0, .int 1], .tuple [.str "end", .int 0, .int 0], .tuple [.str "name", .str "T"], .list [.int 0]]
theorem val_all : ∀ d ∈ valL, SeqAt.shaped d = true := by
  have : (valL.all fun d => SeqAt.shaped d) = true := by decide +kernel
  intro d hd
  exact List.all_eq_true.mp this d hd
theorem ps_shaped {tab : Tab} (ok : tab.Ok) {e : Ev} (h : e.gen tab) : ∀ d ∈ e.ps, SeqAt.shaped d = true := by
  have hi : ∀ i : Int, SeqAt.shaped (.int i) = true := fun i => shaped_of (by simp [PyData.canLay0]) (by simp [PyData.depth])
  have hs : ∀ x : Str, gs x = true → SeqAt.shaped (.str x) = true := fun x hx => shaped_of hx (by simp [PyData.depth])
  have hp : ∀ d : PD, payB d = true → SeqAt.shaped d = true := fun d hd => shaped_of (payB_lay hd).1 (by have := (payB_lay hd).2.1; omega)
  cases e with
  | opn a c n x nm =>
    have hk : SeqAt.shaped (.tuple [.str (rtag x), .str nm]) = true := Kind.shaped ok (k := .ref x nm) h
    simp only [Ev.ps, List.mem_cons, List.not_mem_nil, or_false]
    rintro d (rfl | rfl | rfl | rfl)
    · exact hi _
    · exact hi _
    · exact hi _
    · exact hk
  | say i j x d =>
    simp only [Ev.ps, List.mem_cons, List.not_mem_nil, or_false]
    rintro d (rfl | rfl | rfl | rfl)
    · exact hi _
    · exact hi _
    · exact hs _ h.1
    · exact hp _ h.2
  | hear i j x d =>
    simp only [Ev.ps, List.mem_cons, List.not_mem_nil, or_false]
    rintro d (rfl | rfl | rfl | rfl)
    · exact hi _
    · exact hi _
    · exact hs _ h.1
    · exact hp _ h.2
  | become a x =>
    simp only [Ev.ps, List.mem_cons, List.not_mem_nil, or_false]
    rintro d (rfl | rfl)
    · exact hi _
    · rcases h with rfl | rfl <;> exact hs _ (by decide +kernel)
  | _ =>
    simp only [Ev.ps, List.mem_cons, List.not_mem_nil, or_false]
    first | (rintro d (rfl | rfl) <;> exact hi _) | (rintro d rfl; exact hi _)
theorem ev_nms (e : Ev) : e.nm ∈ evNames := by cases e <;> simp [Ev.nm, evNames]
section
variable {P : Program} {w : World} {K : PySem.W.Frag} {mg : Str → Option Value} {base : Heap} {C : Addr} (E : Fs w K mg C)
include E
theorem ok__law_other : FnG P w K mg base "_law_other" 3 (SpDP C (fun z : OtA => [.d z.e.D]) (fun z r => ∃ a : EvA, r = .d a.D)) := by
  obtain ⟨f, fd, F, hm⟩ := E.d__law_other
  refine (st__law_other F (fun _ => rfl) fun c pl I z => ?_).g hm F.kp
  have ok := I.ok
  have hN := I.N
  have hG := I.G
  have hL := I.Lo
  have bi := I.bi E.bi
  have f1 := I.fn (sp := fun C => SpDP C _ _) (ok__law_take E) (by omega)
  obtain ⟨tab, tok, e, hg⟩ := z
  show DSs c [some .pool, some (.r (.d (.tuple (.str e.nm :: e.ps)))), none, none, none, none] (_ :: _) _
  wtm_at "w"
  refine ⟨⟨5, by decide⟩, rfl, fun w hw => ?_⟩
  obtain ⟨v, rfl, h0, h1⟩ := hw
  refine ⟨_, by wtm_at "k.up", ?_⟩
  wtm_at "w"
  · refine ⟨⟨10, by decide⟩, rfl, fun w hw => ?_⟩
    obtain ⟨u, rfl, g0, g1⟩ := hw
    obtain ⟨d, hd, hat⟩ := at_drawn (ds := [.str "say", .str "hear", .str "told", .str "close", .str "drop", .str "done", .str "fall", .str "become", .str "open", .str "fal"]) g0 g1
    obtain ⟨x, rfl, hx⟩ : ∃ x : Str, d = .str x ∧ x ∈ evNames := by
      simp only [List.mem_cons, List.not_mem_nil, or_false] at hd
      rcases hd with rfl | rfl | rfl | rfl | rfl | rfl | rfl | rfl | rfl | rfl <;> exact ⟨_, rfl, by simp [evNames]⟩
    refine ⟨_, _, rfl, hat, _, rfl, ?_⟩
    wtm_at "w"
    have hp4 : e.ps.length ≤ 4 := by cases e <;> simp [Ev.ps]
    refine ⟨_, add_tup (by rw [cut_tail]; simp only [List.length_cons, List.length_nil]; omega), ?_⟩
    rw [cut_tail]
    exact ⟨⟨x, e.ps, hx, ps_shaped tok hg⟩, rfl⟩
  · show ∃ a : EvA, W.d (.tuple (cutD (.str e.nm :: e.ps) none (some (((PyData.str e.nm :: e.ps).length : Int) - 1)))) = .d a.D
    rw [cut_le (by rw [List.length_cons]; omega)]
    have hp0 : e.ps ≠ [] := by cases e <;> simp [Ev.ps]
    obtain ⟨n, hn⟩ : ∃ n, e.ps.length = n + 1 := ⟨e.ps.length - 1, by have := List.length_pos_iff.mpr hp0; omega⟩
    refine ⟨⟨e.nm, e.ps.take n, ev_nms e, fun d hd => ps_shaped tok hg d (List.mem_of_mem_take hd)⟩, ?_⟩
    have e2 : (((PyData.str e.nm :: e.ps).length : Int) - 1).toNat = n + 1 := by rw [List.length_cons]; omega
    rw [e2]
    rfl
  · refine ⟨⟨14, by decide⟩, rfl, fun w hw => ?_⟩
    obtain ⟨u, rfl, g0, g1⟩ := hw
    obtain ⟨d, hd, hat⟩ := at_drawn (ds := valL) g0 g1
    refine ⟨_, _, rfl, hat, d, rfl, ?_⟩
    wtm_at "w"
    have hp4 : e.ps.length ≤ 4 := by cases e <;> simp [Ev.ps]
    refine ⟨_, add_tup (by simp only [List.length_cons, List.length_nil]; omega), ?_⟩
    exact ⟨⟨e.nm, e.ps ++ [d], ev_nms e, fun q hq => (List.mem_append.mp hq).elim (ps_shaped tok hg q) fun z => by rw [List.mem_singleton.mp z]; exact val_all d hd⟩, rfl⟩
  · have hp0 : e.ps ≠ [] := by cases e <;> simp [Ev.ps]
    have hp4 : e.ps.length ≤ 4 := by cases e <;> simp [Ev.ps]
    have hpn : 0 < ((PyData.str e.nm :: e.ps).length : Int) - 1 ∧ ((PyData.str e.nm :: e.ps).length : Int) - 1 < 1000 := by have := List.length_pos_iff.mpr hp0; rw [List.length_cons]; omega
    refine ⟨⟨((PyData.str e.nm :: e.ps).length : Int) - 1, hpn⟩, rfl, fun w hw => ?_⟩
    obtain ⟨u, rfl, g0, g1⟩ := hw
    refine ⟨_, add_int, _, by wtm_at "k.up", ?_⟩
    wtm_at "w"
    refine ⟨⟨14, by decide⟩, rfl, fun w hw => ?_⟩
    obtain ⟨u2, rfl, k0, k1⟩ := hw
    obtain ⟨d, hd, hat⟩ := at_drawn (ds := valL) k0 k1
    refine ⟨_, _, rfl, hat, d, rfl, ?_⟩
    wtm_at "w"
    obtain ⟨n, rfl⟩ := Int.eq_ofNat_of_zero_le g0
    have c1 : cutD (.str e.nm :: e.ps) none (some (1 + (n : Int))) = .str e.nm :: e.ps.take n := by
      rw [cut_le (by omega), show (1 + (n : Int)).toNat = n + 1 by omega]
      rfl
    have c2 : cutD (.str e.nm :: e.ps) (some (1 + (n : Int) + 1)) none = e.ps.drop (n + 1) := by
      rw [show (1 + (n : Int) + 1) = ((n + 2 : Nat) : Int) by omega, cut_all0]
      rfl
    have t1 : (e.ps.take n).length ≤ 4 := by rw [List.length_take]; omega
    have t2 : (e.ps.drop (n + 1)).length ≤ 4 := by rw [List.length_drop]; omega
    rw [c1]
    refine ⟨_, add_tup (by simp only [List.length_cons, List.length_nil]; omega), ?_⟩
    wtm_at "w"
    rw [c2]
    refine ⟨_, add_tup (by simp only [List.length_append, List.length_cons, List.length_nil]; omega), ?_⟩
    refine ⟨⟨e.nm, e.ps.take n ++ [d] ++ e.ps.drop (n + 1), ev_nms e, fun q hq => ?_⟩, by simp [EvA.D]⟩
    rcases List.mem_append.mp hq with z | z
    · rcases List.mem_append.mp z with z | z
      · exact ps_shaped tok hg q (List.mem_of_mem_take z)
      · rw [List.mem_singleton.mp z]; exact val_all d hd
    · exact ps_shaped tok hg q (List.mem_of_mem_drop z)
end
/-! ### _law_pool -/
section
variable {P : Program} {w : World} {K : PySem.W.Frag} {mg : Str → Option Value} {base : Heap} {C : Addr} (E : Fs w K mg C)
include E
theorem ok__law_pool : FnG P w K mg base "_law_pool" 1 (SpPl K) := by
  obtain ⟨f, fd, F, hm⟩ := E.d__law_pool
  refine FnX.g (f := f) ⟨fd, ["_law_script"], F.ok sc__law_pool (fun vs H Q E h => ?_) (fun cdv A outer s H vs Q E2 hr h => ?_), F.bindsN fun _ _ _ _ _ _ us hl => match us, hl with | [_], _ => by kernel_rfl⟩ hm F.kp
  · obtain ⟨ns, a, rfl, _⟩ := h
    rfl
  · obtain ⟨ns, a, rfl, hS, q⟩ := h
    have I := ctx_is (CX := CX0) (P := P) (w := w) (K := K) (mg := mg) (base := base) (C := C) (cdv := cdv) (outer := outer) (H := H) (E := E2) sc__law_pool (Ls := L__law_pool) (G := G__law_pool) (by decide +kernel) (by decide +kernel) none hr
    refine ⟨_, PSs.nox (pss_one (ps_ret (pe_lst (pa_cons pe_int (pa_cons (pe_callTy call_list_of (I.ok.gl _ rfl "list" List.mem_cons_self) (I.ok.mgn rfl (I.bi E.bi).list) PyProof.Rows.boot_list (pa_cons (pv 0) pa_nil) (by decide) (by decide)) (pa_cons (pe_un un_neg pe_int) pa_nil)))))), ?_⟩
    refine ⟨_, rfl, a, _, rfl, .inl hS, fun l hl => ?_⟩
    refine ⟨1, rfl, (by decide : 3 ≤ sizeLine), fun x hx => ?_⟩
    have hxl : x ≠ l := fun e => by rw [e, upd_same] at hx; cases hx
    refine q x l _ ⟨hxl, 0, 0, ns, upd_same, ?_⟩
    rw [upd_ne (Ne.symm hxl), upd_same]
end
/-! ### law -/
theorem gev_imm {tab : Tab} {d : PD} (h : GEv tab d) : immW (.d d) = true := by
  cases h with
  | ev h => exact gen_imm h
  | sh => rfl
  | dn => rfl
  | fl => rfl
def GsB (l : Lc) : Prop := ∀ p box, gt l.b p = some box → ∀ m ∈ box, gs m.1 = true
theorem GsB.pt {l : Lc} (h : GsB l) {l' : Lc} {p : Pl} {bx : List Msg} (e : l'.b = K49.pt l.b p bx) (hb : ∀ m ∈ bx, gs m.1 = true) : GsB l' := fun q box hq m hm => by
  rw [e, gt_pt] at hq
  split at hq
  · cases hq; exact hb m hm
  · exact h q box hq m hm
theorem GsB.boxOf {l : Lc} (h : GsB l) (p : Pl) : ∀ m ∈ K49.boxOf l p, gs m.1 = true := fun m hm => by
  unfold K49.boxOf at hm
  cases e : gt l.b p with
  | none => rw [e] at hm; cases hm
  | some box => rw [e] at hm; exact h p box e m hm
theorem GsB.app {tab : Tab} {l : Lc} (h : GsB l) {fl : Bool} {e : Ev} (hg : e.gen tab) : GsB (l.app tab fl e) := by
  have nb : ∀ m ∈ ([] : List Msg), gs m.1 = true := fun m hm => by cases hm
  cases e with
  | opn a c n x nm =>
    exact GsB.pt (l := { l with b := K49.pt l.b (n, 0) [] }) (GsB.pt h rfl nb) rfl nb
  | say i j x d =>
    by_cases ht : takes l (oth (i, j)) = true
    · refine h.pt (p := oth (i, j)) (bx := K49.boxOf l (oth (i, j)) ++ [(x, d)]) (by show (if _ then _ else _) = _; rw [if_pos ht]) fun m hm => ?_
      rcases List.mem_append.mp hm with z | z
      · exact h.boxOf _ m z
      · obtain rfl := List.mem_singleton.mp z
        exact hg.1
    · intro p box hb
      have e : (Lc.app tab fl l (.say i j x d)).b = l.b := by show (if _ then _ else _) = _; rw [if_neg ht]
      rw [e] at hb
      exact h p box hb
  | hear i j x d => exact h.pt (p := (i, j)) (bx := (K49.boxOf l (i, j)).tail) rfl fun m hm => h.boxOf _ m (List.mem_of_mem_tail hm)
  | told i j => exact h.pt rfl nb
  | close i j => exact h.pt rfl nb
  | drop i j => exact h.pt rfl nb
  | become a x => exact h
  | done a => exact h
  | fall a => exact h
/-- a trace's items -/
def TrP (ds : List PD) : Prop := ∀ d ∈ ds, ∃ a : EvA, d = a.D
theorem TrP.tr : ∀ {ds : List PD}, TrP ds → ∃ tr : List EvA, ds = tr.map EvA.D
  | [], _ => ⟨[], rfl⟩
  | d :: ds, h => by
    obtain ⟨a, rfl⟩ := h d List.mem_cons_self
    obtain ⟨tr, rfl⟩ := TrP.tr (ds := ds) fun d hd => h d (List.mem_cons_of_mem _ hd)
    exact ⟨a :: tr, rfl⟩
theorem TrP.cut {ds : List PD} (h : TrP ds) {a b : Option Int} : TrP (cutD ds a b) := fun d hd => h d (List.mem_of_mem_drop (List.mem_of_mem_take hd))
theorem TrP.app {ds es : List PD} (h : TrP ds) (h2 : TrP es) : TrP (ds ++ es) := fun d hd => (List.mem_append.mp hd).elim (h d) (h2 d)
theorem TrP.rev {ds : List PD} (h : TrP ds) : TrP ds.reverse := fun d hd => h d (List.mem_reverse.mp hd)
theorem TrP.one {a : EvA} : TrP [a.D] := fun d hd => ⟨a, List.mem_singleton.mp hd⟩
theorem cut_len {ds : List PD} {a b : Option Int} : (cutD ds a b).length ≤ ds.length := by
  unfold cutD
  rw [List.length_take, List.length_drop]
  omega
theorem TrP.gen {tab : Tab} (tok : tab.Ok) : ∀ {es : List Ev}, (∀ e ∈ es, e.gen tab) → TrP (es.map Ev.D) := fun {es} h d hd => by
  obtain ⟨e, he, rfl⟩ := List.mem_map.mp hd
  exact ⟨⟨e.nm, e.ps, ev_nms e, ps_shaped tok (h e he)⟩, rfl⟩
local macro_rules | `(tactic| tb_rel) => `(tactic| ((with_reducible show DS _ _ (.Assign [.Name _ _] (.BinOp _ .Add _ _) _) _); refine ds_asgF (by wtm_at "k.a") (by wtm_at "k.a") (by wtm_at "k.mem") (by wtm_at "k.a") (by wtm_at "k.mem") ?_))
local macro_rules | `(tactic| kat_tups) => `(tactic| first
  | ((with_reducible show DE _ _ (.BinOp (.Subscript _ (.Slice _ _ _ _) _) .Add _ _) _); refine de_of_df (df_catE ?_))
  | ((with_reducible show DE _ _ (.Call (.Name "list" _) [.Call (.Name "reversed" _) _ _ _] _ _) _); refine de_of_df (df_rev (by wtm_at "k.a") (by wtm_at "k.a") (by wtm_at "k.a") (by wtm_at "k.mem") (by wtm_at "k.mem") ?_))
  | fail "no")
section
variable {P : Program} {w : World} {K : PySem.W.Frag} {mg : Str → Option Value} {base : Heap} {C : Addr} (E : Fs w K mg C)
include E
theorem law_loop {c : Ctx} {p q : Addr} (I : CIs c P w K mg base 14 N_law L_law G_law C (some (p, q)) (defScope s_law)) : DSs c [none, some .pool, none, none, none, none, none, none, none] ((defBody s_law).drop 1) ⟨fun _ => False, fun r _ => r = .d (.bool true), fun _ _ => False, fun _ => False, fun _ => False⟩ := by
  have ok := I.ok
  have hN := I.N
  have hG := I.G
  have hL := I.Lo
  have bi := I.bi E.bi
  have f1 := I.fn (sp := fun C => SpDP C _ _) (ok__law_take E) (by omega)
  have f2 := I.fn (sp := fun C => SpDP C _ _) (ok__law_table E) (by omega)
  have f3 := I.fn (sp := fun C => SpO C .st blank) (ok__law_blank E) (by omega)
  have f4 := I.fn (sp := fun C => SpDP C _ _) (ok__law_event E) (by omega)
  have f5 := I.fn (sp := fun C => SpD C _ _) (ok__law_may E) (by omega)
  have f6 := I.fn (sp := fun C => SpM C _ _ _ _) (ok__law_do E) (by omega)
  have f7 := I.fn (sp := fun C => SpDP C _ _) (ok__law_other E) (by omega)
  have f8 := I.fn (sp := fun C => SpD C _ _) (ok_judge E) (by omega)
  have f9 := I.fn (sp := fun C => SpD C _ _) (ok__law_all_right E) (by omega)
  show DSs c [none, some .pool, none, none, none, none, none, none, none] (_ :: _) _
  refine dss_cons ?_
  wtm_at "w"
  refine ⟨(), rfl, fun w hw => ?_⟩
  obtain ⟨tab, rfl, tok, hne⟩ := hw
  refine ⟨_, by wtm_at "k.up", ?_⟩
  refine dss_cons (ds_newS ok hN (by wtm_at "k.mem") hL (by wtm_at "k.mem") f3 hG (by wtm_at "k.mem") fun A0 => ⟨_, by wtm_at "k.up", ?_⟩)
  refine dss_cons (ds_asgF ok hN (by wtm_at "k.mem") hL (by wtm_at "k.mem") (df_lst (dd_nil ⟨by decide, _, by wtm_at "k.up", ?_⟩)))
  refine dss_cons (ds_forR ok bi hG (by wtm_at "k.mem") ?_)
  wtm_at "w"
  refine ⟨⟨31, by decide⟩, rfl, fun w hw => ?_⟩
  obtain ⟨n, rfl, n0, n1⟩ := hw
  have n1 : n < 31 := n1
  refine ⟨n, rfl, by omega, by omega, fun i env => ∃ A l es q5 q6, env = [none, some .pool, some (.r (.tb tab.D)), some (.ost A (Lc.D l)), some (.l (es.map Ev.D)), q5, q6, none, none] ∧ LcOk tab i l ∧ GsB l ∧ es.length ≤ i ∧ (∀ e ∈ es, e.gen tab), ⟨A0, ⟨[], [], [], [false], []⟩, [], none, none, rfl, LcOk.init tok, fun p box e => (by cases e), Nat.le_refl 0, fun e he => by cases he⟩, ?_, ?_⟩
  · rintro i env1 hi ⟨A, l, es, q5, q6, rfl, hl, hgs, hle, hg⟩
    have hi : i ≤ 30 := by omega
    refine dg_name ok hN hL (by wtm_at "k.mem") ⟨_, by wtm_at "k.up", ?_⟩
    refine dss_cons (DS.nxI' (Q := fun e => ∃ d, GEv tab d ∧ e = [none, some .pool, some (.r (.tb tab.D)), some (.ost A l.D), some (.l (es.map Ev.D)), some (.r (.d (.int i))), some (.r (.d d)), none, none]) ?_ ?_)
    · wtm_at "m"
      refine ⟨⟨⟨tab, l, i, hl, by omega, hgs⟩, hne⟩, rfl, fun w hw => ?_⟩
      obtain ⟨d, rfl, hd⟩ := hw
      have him := gev_imm hd
      wtm_at "m"
      exact ⟨d, hd, rfl⟩
    · rintro e ⟨d, hd, rfl⟩
      have him := gev_imm hd
      wtm_at "m"
      refine ⟨⟨tab, l, i, hl, d, hd⟩, rfl, fun w hw => ?_⟩
      obtain ⟨b, rfl, hb⟩ := hw
      cases b with
      | false =>
        wtm_at "m"
        exact ⟨A, l, es, _, _, rfl, hl.up, hgs, by omega, hg⟩
      | true =>
        obtain ⟨ev, h1, h2, h3⟩ := hb rfl
        have h1 : d = ev.D := h1
        subst h1
        wtm_at "m"
        refine ds_callM1 ok hN .st (LkO.s (LkO.s (LkO.s LkO.z))) f6 hG (by wtm_at "k.mem") ?_
        wtm_at "w"
        refine ⟨⟨tab, l, i, hl, by omega, ev, h3⟩, rfl, rfl, rfl, fun k' co' A' hpo hA => ?_⟩
        obtain ⟨rfl, rfl⟩ := hpo
        show ∃ env', Up _ _ _ (.ost A' _) env' ∧ _
        refine ⟨_, by wtm_at "k.up", ?_⟩
        have hz : (es.map Ev.D).length < 1000000 := by rw [List.length_map]; omega
        wtm_at "w"
        refine ⟨A', l.app tab true ev, es ++ [ev], _, _, by rw [List.map_append]; rfl, hl.appW h3, hgs.app h2, by rw [List.length_append]; exact Nat.add_le_add_right hle 1, fun e he => ?_⟩
        rcases List.mem_append.mp he with z | z
        · exact hg e z
        · obtain rfl := List.mem_singleton.mp z
          exact h2
  · rintro env1 ⟨A, l, es, q5, q6, rfl, hl, hgs, hle, hg⟩
    have hle : es.length ≤ 30 := by omega
    refine dss_give ok hN (by wtm_at "k.ll") ⟨_, by wtm_at "k.up", ?_⟩
    have htr : TrP (es.map Ev.D) := TrP.gen tok hg
    have hlen : (es.map Ev.D).length ≤ 30 := by rw [List.length_map]; exact hle
    generalize hds : es.map Ev.D = ds at htr hlen ⊢
    refine dss_cons (DS.nxI' (Q := fun e => ∃ ds s4 q7 q8, e = [none, some .pool, some (.r (.tb tab.D)), some (.ost A l.D), some s4, q5, q6, q7, q8] ∧ (s4 = .l ds ∨ s4 = .r (.d (.list ds))) ∧ ds.length ≤ 100 ∧ TrP ds) ?_ ?_)
    · by_cases h0 : ds = []
      · subst h0
        wtm_at "w"
        exact ⟨[], _, _, _, rfl, .inr rfl, by simp, htr⟩
      · have ht : truW (.d (.list ds)) = some true := by
          cases ds with
          | nil => exact absurd rfl h0
          | cons d ds => rfl
        have hpos : 0 < (ds.length : Int) ∧ (ds.length : Int) < 1000 := by have := List.length_pos_iff.mpr h0; omega
        have c1 : ∀ a b, (cutD ds a b).length ≤ 30 := fun a b => Nat.le_trans cut_len hlen
        wtm_at "w"
        refine ⟨⟨3, by decide⟩, rfl, fun w hw => ?_⟩
        obtain ⟨v, rfl, v0, v1⟩ := hw
        wtm_at "w"
        · refine ⟨⟨(ds.length : Int), hpos⟩, rfl, fun w hw => ?_⟩
          obtain ⟨a, rfl, a0, a1⟩ := hw
          wtm_at "w"
          refine ⟨⟨4, by decide⟩, rfl, fun w hw => ?_⟩
          obtain ⟨u, rfl, u0, u1⟩ := hw
          wtm_at "w"
          · have g1 := c1 none (some a)
            have g2 := c1 (some (a + 1)) none
            refine ⟨by omega, ?_⟩
            wtm_at "w"
            exact ⟨_, _, _, _, rfl, .inl rfl, by rw [List.length_append]; omega, htr.cut.app htr.cut⟩
          · have g1 := c1 none (some (a + 1))
            have g2 := c1 (some a) none
            refine ⟨by omega, ?_⟩
            wtm_at "w"
            exact ⟨_, _, _, _, rfl, .inl rfl, by rw [List.length_append]; omega, htr.cut.app htr.cut⟩
          · obtain ⟨d, hd, hix⟩ := ix_drawn (ds := ds) a0 a1
            rw [← hds] at hd
            obtain ⟨e, he, rfl⟩ := List.mem_map.mp hd
            refine ⟨_, hix, ?_⟩
            wtm_at "w"
            refine ⟨⟨tab, tok, e, hg e he⟩, rfl, fun w hw => ?_⟩
            obtain ⟨b, rfl⟩ := hw
            have g1 := c1 none (some a)
            have g2 := c1 (some (a + 1)) none
            wtm_at "w"
            refine ⟨by simp only [List.length_cons, List.length_nil]; omega, ?_⟩
            wtm_at "w"
            refine ⟨by rw [List.length_append]; simp only [List.length_cons, List.length_nil]; omega, ?_⟩
            wtm_at "w"
            exact ⟨_, _, _, _, rfl, .inl rfl, by rw [List.length_append, List.length_append]; simp only [List.length_cons, List.length_nil]; omega, (htr.cut.app TrP.one).app htr.cut⟩
          · have g1 := c1 none (some a)
            have g2 := c1 (some a) (some (a + 2))
            have g3 := c1 (some (a + 2)) none
            refine ⟨by rw [List.length_reverse]; omega, ?_⟩
            wtm_at "w"
            refine ⟨by rw [List.length_append, List.length_reverse]; omega, ?_⟩
            wtm_at "w"
            exact ⟨_, _, _, _, rfl, .inl rfl, by rw [List.length_append, List.length_append, List.length_reverse]; omega, (htr.cut.app htr.cut.rev).app htr.cut⟩
        · exact ⟨ds, _, _, _, rfl, .inr rfl, by omega, htr⟩
    · rintro e ⟨ds, s4, q7, q8, rfl, hs4, hlen, htr⟩
      obtain ⟨tr, rfl⟩ := htr.tr
      rw [List.length_map] at hlen
      have key : DSs c [none, some .pool, some (.r (.tb tab.D)), some (.ost A l.D), some (.r (.d (.list (tr.map EvA.D)))), q5, q6, q7, q8] ((defBody s_law).drop 6) ⟨fun _ => False, fun r _ => r = .d (.bool true), fun _ _ => False, fun _ => False, fun _ => False⟩ := by
        show DSs c [none, some .pool, some (.r (.tb tab.D)), some (.ost A l.D), some (.r (.d (.list (tr.map EvA.D)))), q5, q6, q7, q8] (_ :: _) _
        wtm_at "w"
        refine ⟨_, rfl, ?_⟩
        wtm_at "w"
        refine ⟨_, rfl, ?_⟩
        wtm_at "w"
        refine ⟨⟨tab, tr, tok, hlen⟩, rfl, fun w hw => ?_⟩
        rcases hw with ⟨rfl, es', L, hes, hrun, hgood⟩ | ⟨i, rfl⟩
        · wtm_at "w"
          rw [hes]
          have I2 := hrun.inv tok hgood
          have hl2 : es'.length ≤ 100 := by
            have hz : tr.length = es'.length := by simpa using congrArg List.length hes
            rw [← hz]
            exact hlen
          refine ⟨⟨tab, es', tok, hl2, hgood, fun cc hcc => ?_⟩, rfl, fun w hw => hw⟩
          obtain ⟨a, cc', x, nm, tl, g1, g2, g3, g4⟩ := I2.sd cc (by rw [I2.no] at hcc; exact hcc)
          refine ⟨a, cc', x, nm, tl, g1, g2, g3, fun j hj => ?_⟩
          obtain ⟨s, y1, y2⟩ := g4 j hj
          obtain ⟨t, _, y3⟩ := y2.path
          exact ⟨s, t, y1, y3⟩
        · wtm_at "w"
          rfl
      rcases hs4 with rfl | rfl
      · exact dss_give ok hN (by wtm_at "k.ll") ⟨_, by wtm_at "k.up", key⟩
      · exact key
end
/-! ### law's start -/
def spLaw (K : PySem.W.Frag) : Sp := fun vs H Q _ => ∃ (a : Addr) (ns : List Int), vs = [.ref a] ∧ SqL K H a (ns.map V.int) ∧ ∀ H', Q (.bl true) H'
theorem nones {n i : Nat} {s : Slot} : (List.replicate n (none : Option Slot))[i]? ≠ some (some s) := by
  rw [List.getElem?_replicate]
  split <;> simp
section
variable {P : Program} {w : World} {K : PySem.W.Frag} {mg : Str → Option Value} {base : Heap} {C : Addr} (E : Fs w K mg C)
include E
theorem ok_lawP {f : Addr} {fd : FuncData} (F : FunD K "law" "law" (defArgs s_law) (defBody s_law) (defScope s_law) [] [] f fd) : FnOk P w K mg base CX0 15 f fd ["_law_script"] (spLaw K) := by
  refine F.ok sc_law (fun vs H Q E h => ?_) (fun cdv A outer s H vs Q E2 hr h => ?_)
  · obtain ⟨a, ns, rfl, _⟩ := h
    rfl
  · obtain ⟨a, ns, rfl, hS, hQ⟩ := h
    obtain ⟨f2, fd2, ps2, FO2, hm2, hk2, hb2⟩ := (ok__law_pool (P := P) (base := base) E).ex
    have I0 := fun pl => ctx_is (CX := CX0) (P := P) (w := w) (K := K) (mg := mg) (base := base) (C := C) (cdv := cdv) (outer := outer) (H := H) (E := E2) sc_law (Ls := L_law) (G := G_law) (by decide +kernel) (by decide +kernel) pl hr
    have lc := (I0 none).ok.loc _ rfl "_law_pool_here" ((I0 none).Lo _ (List.mem_cons_of_mem _ List.mem_cons_self))
    have gl := (I0 none).ok.gl _ rfl "_law_pool" (List.mem_cons_of_mem _ (List.mem_cons_of_mem _ (List.mem_cons_of_mem _ (List.mem_cons_of_mem _ (List.mem_cons_of_mem _ (List.mem_cons_of_mem _ List.mem_cons_self))))))
    have rm := ((I0 none).ok.room _ rfl).mono (by decide : 1 ≤ 14)
    refine ⟨_, PSs.nox (pss_cons (ps_set (i := 1) sc_law.nd rfl lc.1 (pe_call FO2 rm gl hm2 hk2 hb2 .nil pass0 (pa_cons (pv 0) pa_nil) rfl) (by rfl) lc.2) pSs), ?_⟩
    refine ⟨_, rfl, ns, a, rfl, hS, fun p q H2 g => ?_⟩
    refine law_loop E (I0 (some (p, q))) _ rfl (fun _ => none) (fun _ => False) H2 (fun _ => none) (fun _ => []) _ ?_ _ ?_
    · refine ⟨rfl, fun a o e => (by cases e), fun a o e => (by cases e), fun a h => h.elim, fun a h => h.elim, fun i s e => ?_, fun i a h => (by simp at h), fun i j a h => (by simp at h), fun i s x e h => ?_, fun p' q' h => ?_⟩
      · match i, e with
        | 0, e => cases e
        | 1, e => cases e; exact ⟨_, rfl, p, q, rfl, rfl⟩
        | i + 2, e => exact absurd e (nones (n := 7))
      · match i, e with
        | 0, e => cases e
        | 1, e => cases h; exact (I0 none).ok.lov _ ((I0 none).Lo _ (List.mem_cons_of_mem _ List.mem_cons_self))
        | i + 2, e => exact absurd e (nones (n := 7))
      · cases h
        exact ⟨g, fun a _ => ⟨rfl, rfl, fun h => h, fun i h => by simp at h⟩⟩
    · refine ⟨fun _ _ _ _ _ h => h.elim, fun u v env H' S' fp σ hq E' s' ru => ?_, fun _ _ _ _ _ _ _ _ h => h.elim, fun _ _ _ _ _ h => h.elim, fun _ _ _ _ _ h => h.elim⟩
      subst hq
      obtain rfl := Dt.bl_inv (S := S') ru
      exact hQ H'
end
theorem facts {w : World} {K : PySem.W.Frag} {h : Heap} {mg : Str → Option Value} (X : K.In h) (G : h.Ns mainGlobals mg) (c : He.SaysT fa fn tabs w K) (x : exB K = true) : Fs w K mg (He.ga K "Ledger") := by
  obtain ⟨x1, x2⟩ := He.ba x
  have gl : ∀ {y : Str}, (He.Fa.glo y).ok K = true → mg y = some (.ref (He.ga K y)) := fun h => He.glo_ok X G h
  have fr : ∀ {y : Str}, (He.Fa.free y).ok K = true → mg y = none := fun h => He.free_ok X G h
  have parts : PkOk K w mg := by
    obtain ⟨es, n, kd⟩ := c.tab 0 (t := (fun K => He.ga K "PARTS", partKeys)) rfl
    refine ⟨⟨_, es, n, gl (c.d.fact 72 (f := .glo "PARTS") rfl), kd, fun z hz => ?_⟩⟩
    have yes : ∀ {z : Str} {m : Int}, (z, He.Dv.int m) ∈ partKvs → partN z = some m → ∃ r, PySem.W.nsIn K (He.ga K "PARTS") z = some r ∧ ((∃ m u, partN z = some m ∧ r = some u ∧ RelV (.int m) u) ∨ (partN z = none ∧ r = none)) := fun {z m} hm hp => by
      obtain ⟨u, h1, h2⟩ := He.valsB_ok x1 hm
      exact ⟨_, h1, .inl ⟨m, u, hp, rfl, h2⟩⟩
    simp only [evNames, List.mem_cons, List.not_mem_nil, or_false] at hz
    rcases hz with rfl | rfl | rfl | rfl | rfl | rfl | rfl | rfl | rfl | rfl
    all_goals first
      | exact yes (by simp [partKvs]) rfl
      | (refine ⟨none, ?_, .inr ⟨rfl, rfl⟩⟩
         split at x2
         · assumption
         · cases x2)
  exact {
    bi := ⟨fr (c.d.fact 57 (f := .free "isinstance") rfl), fr (c.d.fact 58 (f := .free "int") rfl), fr (c.d.fact 59 (f := .free "bool") rfl), fr (c.d.fact 60 (f := .free "str") rfl), fr (c.d.fact 61 (f := .free "tuple") rfl), fr (c.d.fact 62 (f := .free "len") rfl), fr (c.d.fact 63 (f := .free "range") rfl), fr (c.d.fact 64 (f := .free "dict") rfl), fr (c.d.fact 65 (f := .free "list") rfl), fr (c.d.fact 66 (f := .free "sorted") rfl), fr (c.d.fact 67 (f := .free "abs") rfl), fr (c.d.fact 68 (f := .free "reversed") rfl)⟩
    ld := ⟨He.cls_ok (c.d.fact 70 (f := .cls "Ledger") rfl), fun f hf => by
      simp only [ledN, List.mem_cons, List.not_mem_nil, or_false] at hf
      rcases hf with rfl | rfl | rfl | rfl | rfl | rfl | rfl
      all_goals first | exact He.noat_ok (c.d.fact 74 (f := .noat "Ledger" "_table") rfl) | exact He.noat_ok (c.d.fact 75 (f := .noat "Ledger" "_talks") rfl) | exact He.noat_ok (c.d.fact 76 (f := .noat "Ledger" "_marks") rfl) | exact He.noat_ok (c.d.fact 77 (f := .noat "Ledger" "_boxes") rfl) | exact He.noat_ok (c.d.fact 78 (f := .noat "Ledger" "_opened") rfl) | exact He.noat_ok (c.d.fact 79 (f := .noat "Ledger" "_finished") rfl) | exact He.noat_ok (c.d.fact 80 (f := .noat "Ledger" "_owed") rfl)⟩
    pk := parts
    most := by obtain ⟨t, ht⟩ := He.int_ok X G (c.d.fact 73 (f := .int "MOST" 65535) rfl); exact ⟨_, ht, t, rfl⟩
    init := by obtain ⟨fd, F⟩ := c.d.def_ 57 (d := mkD ("Ledger", some "__init__") "__init__" "Ledger.__init__" s_Ledger___init__) rfl; exact ⟨_, fd, F, He.mkr_ok (c.d.fact 71 (f := .mkr "Ledger") rfl), gl (c.d.fact 69 (f := .glo "Ledger") rfl)⟩
    d_is_reference := by obtain ⟨fd, F⟩ := c.d.def_ 0 (d := mkD ("is_reference", none) "is_reference" "is_reference" s_is_reference) rfl; exact ⟨_, fd, F, gl (c.d.fact 0 (f := .glo "is_reference") rfl)⟩
    d_dual_kind := by obtain ⟨fd, F⟩ := c.d.def_ 1 (d := mkD ("dual_kind", none) "dual_kind" "dual_kind" s_dual_kind) rfl; exact ⟨_, fd, F, gl (c.d.fact 1 (f := .glo "dual_kind") rfl)⟩
    d_dual := by obtain ⟨fd, F⟩ := c.d.def_ 2 (d := mkD ("dual", none) "dual" "dual" s_dual) rfl; exact ⟨_, fd, F, gl (c.d.fact 2 (f := .glo "dual") rfl)⟩
    d_head := by obtain ⟨fd, F⟩ := c.d.def_ 3 (d := mkD ("head", none) "head" "head" s_head) rfl; exact ⟨_, fd, F, gl (c.d.fact 3 (f := .glo "head") rfl)⟩
    d_row_of := by obtain ⟨fd, F⟩ := c.d.def_ 4 (d := mkD ("row_of", none) "row_of" "row_of" s_row_of) rfl; exact ⟨_, fd, F, gl (c.d.fact 4 (f := .glo "row_of") rfl)⟩
    d_is_talk_kind := by obtain ⟨fd, F⟩ := c.d.def_ 5 (d := mkD ("is_talk_kind", none) "is_talk_kind" "is_talk_kind" s_is_talk_kind) rfl; exact ⟨_, fd, F, gl (c.d.fact 5 (f := .glo "is_talk_kind") rfl)⟩
    d_asked_rows := by obtain ⟨fd, F⟩ := c.d.def_ 6 (d := mkD ("asked_rows", none) "asked_rows" "asked_rows" s_asked_rows) rfl; exact ⟨_, fd, F, gl (c.d.fact 6 (f := .glo "asked_rows") rfl)⟩
    d_payload_pair := by obtain ⟨fd, F⟩ := c.d.def_ 7 (d := mkD ("payload_pair", none) "payload_pair" "payload_pair" s_payload_pair) rfl; exact ⟨_, fd, F, gl (c.d.fact 7 (f := .glo "payload_pair") rfl)⟩
    d_reason_at := by obtain ⟨fd, F⟩ := c.d.def_ 8 (d := mkD ("reason_at", none) "reason_at" "reason_at" s_reason_at) rfl; exact ⟨_, fd, F, gl (c.d.fact 8 (f := .glo "reason_at") rfl)⟩
    d_wrong_path := by obtain ⟨fd, F⟩ := c.d.def_ 10 (d := mkD ("wrong_path", none) "wrong_path" "wrong_path" s_wrong_path) rfl; exact ⟨_, fd, F, gl (c.d.fact 10 (f := .glo "wrong_path") rfl)⟩
    d_is_subtalk := by obtain ⟨fd, F⟩ := c.d.def_ 11 (d := mkD ("is_subtalk", none) "is_subtalk" "is_subtalk" s_is_subtalk) rfl; exact ⟨_, fd, F, gl (c.d.fact 11 (f := .glo "is_subtalk") rfl)⟩
    d_is_whole := by obtain ⟨fd, F⟩ := c.d.def_ 12 (d := mkD ("is_whole", none) "is_whole" "is_whole" s_is_whole) rfl; exact ⟨_, fd, F, gl (c.d.fact 12 (f := .glo "is_whole") rfl)⟩
    d_is_end := by obtain ⟨fd, F⟩ := c.d.def_ 13 (d := mkD ("is_end", none) "is_end" "is_end" s_is_end) rfl; exact ⟨_, fd, F, gl (c.d.fact 13 (f := .glo "is_end") rfl)⟩
    d_is_kind := by obtain ⟨fd, F⟩ := c.d.def_ 14 (d := mkD ("is_kind", none) "is_kind" "is_kind" s_is_kind) rfl; exact ⟨_, fd, F, gl (c.d.fact 14 (f := .glo "is_kind") rfl)⟩
    d_judge := by obtain ⟨fd, F⟩ := c.d.def_ 16 (d := mkD ("judge", none) "judge" "judge" s_judge) rfl; exact ⟨_, fd, F, gl (c.d.fact 16 (f := .glo "judge") rfl)⟩
    d__law_wide := by obtain ⟨fd, F⟩ := c.d.def_ 17 (d := mkD ("_law_wide", none) "_law_wide" "_law_wide" s__law_wide) rfl; exact ⟨_, fd, F, gl (c.d.fact 17 (f := .glo "_law_wide") rfl)⟩
    d__law_dual := by obtain ⟨fd, F⟩ := c.d.def_ 25 (d := mkD ("_law_dual", none) "_law_dual" "_law_dual" s__law_dual) rfl; exact ⟨_, fd, F, gl (c.d.fact 25 (f := .glo "_law_dual") rfl)⟩
    d__law_head := by obtain ⟨fd, F⟩ := c.d.def_ 26 (d := mkD ("_law_head", none) "_law_head" "_law_head" s__law_head) rfl; exact ⟨_, fd, F, gl (c.d.fact 26 (f := .glo "_law_head") rfl)⟩
    d__law_row := by obtain ⟨fd, F⟩ := c.d.def_ 27 (d := mkD ("_law_row", none) "_law_row" "_law_row" s__law_row) rfl; exact ⟨_, fd, F, gl (c.d.fact 27 (f := .glo "_law_row") rfl)⟩
    d__law_fails := by obtain ⟨fd, F⟩ := c.d.def_ 30 (d := mkD ("_law_fails", none) "_law_fails" "_law_fails" s__law_fails) rfl; exact ⟨_, fd, F, gl (c.d.fact 30 (f := .glo "_law_fails") rfl)⟩
    d__law_is_subtalk := by obtain ⟨fd, F⟩ := c.d.def_ 33 (d := mkD ("_law_is_subtalk", none) "_law_is_subtalk" "_law_is_subtalk" s__law_is_subtalk) rfl; exact ⟨_, fd, F, gl (c.d.fact 33 (f := .glo "_law_is_subtalk") rfl)⟩
    d__law_whole := by obtain ⟨fd, F⟩ := c.d.def_ 35 (d := mkD ("_law_whole", none) "_law_whole" "_law_whole" s__law_whole) rfl; exact ⟨_, fd, F, gl (c.d.fact 35 (f := .glo "_law_whole") rfl)⟩
    d__law_end := by obtain ⟨fd, F⟩ := c.d.def_ 36 (d := mkD ("_law_end", none) "_law_end" "_law_end" s__law_end) rfl; exact ⟨_, fd, F, gl (c.d.fact 36 (f := .glo "_law_end") rfl)⟩
    d__law_running := by obtain ⟨fd, F⟩ := c.d.def_ 37 (d := mkD ("_law_running", none) "_law_running" "_law_running" s__law_running) rfl; exact ⟨_, fd, F, gl (c.d.fact 37 (f := .glo "_law_running") rfl)⟩
    d__law_is_side := by obtain ⟨fd, F⟩ := c.d.def_ 38 (d := mkD ("_law_is_side", none) "_law_is_side" "_law_is_side" s__law_is_side) rfl; exact ⟨_, fd, F, gl (c.d.fact 38 (f := .glo "_law_is_side") rfl)⟩
    d__law_may_open := by obtain ⟨fd, F⟩ := c.d.def_ 39 (d := mkD ("_law_may_open", none) "_law_may_open" "_law_may_open" s__law_may_open) rfl; exact ⟨_, fd, F, gl (c.d.fact 39 (f := .glo "_law_may_open") rfl)⟩
    d__law_may_say := by obtain ⟨fd, F⟩ := c.d.def_ 40 (d := mkD ("_law_may_say", none) "_law_may_say" "_law_may_say" s__law_may_say) rfl; exact ⟨_, fd, F, gl (c.d.fact 40 (f := .glo "_law_may_say") rfl)⟩
    d__law_like := by obtain ⟨fd, F⟩ := c.d.def_ 41 (d := mkD ("_law_like", none) "_law_like" "_law_like" s__law_like) rfl; exact ⟨_, fd, F, gl (c.d.fact 41 (f := .glo "_law_like") rfl)⟩
    d__law_may_here := by obtain ⟨fd, F⟩ := c.d.def_ 42 (d := mkD ("_law_may_here", none) "_law_may_here" "_law_may_here" s__law_may_here) rfl; exact ⟨_, fd, F, gl (c.d.fact 42 (f := .glo "_law_may_here") rfl)⟩
    d__law_may := by obtain ⟨fd, F⟩ := c.d.def_ 43 (d := mkD ("_law_may", none) "_law_may" "_law_may" s__law_may) rfl; exact ⟨_, fd, F, gl (c.d.fact 43 (f := .glo "_law_may") rfl)⟩
    d__law_path := by obtain ⟨fd, F⟩ := c.d.def_ 52 (d := mkD ("_law_path", none) "_law_path" "_law_path" s__law_path) rfl; exact ⟨_, fd, F, gl (c.d.fact 52 (f := .glo "_law_path") rfl)⟩
    d__law_side_right := by obtain ⟨fd, F⟩ := c.d.def_ 53 (d := mkD ("_law_side_right", none) "_law_side_right" "_law_side_right" s__law_side_right) rfl; exact ⟨_, fd, F, gl (c.d.fact 53 (f := .glo "_law_side_right") rfl)⟩
    d__law_about := by obtain ⟨fd, F⟩ := c.d.def_ 54 (d := mkD ("_law_about", none) "_law_about" "_law_about" s__law_about) rfl; exact ⟨_, fd, F, gl (c.d.fact 54 (f := .glo "_law_about") rfl)⟩
    d__law_all_right := by obtain ⟨fd, F⟩ := c.d.def_ 55 (d := mkD ("_law_all_right", none) "_law_all_right" "_law_all_right" s__law_all_right) rfl; exact ⟨_, fd, F, gl (c.d.fact 55 (f := .glo "_law_all_right") rfl)⟩
    d_reached_pairs := by obtain ⟨fd, F⟩ := c.d.def_ 9 (d := mkD ("reached_pairs", none) "reached_pairs" "reached_pairs" s_reached_pairs) rfl; exact ⟨_, fd, F, gl (c.d.fact 9 (f := .glo "reached_pairs") rfl)⟩
    d_ends_of := by obtain ⟨fd, F⟩ := c.d.def_ 15 (d := mkD ("ends_of", none) "ends_of" "ends_of" s_ends_of) rfl; exact ⟨_, fd, F, gl (c.d.fact 15 (f := .glo "ends_of") rfl)⟩
    d__law_kinds := by obtain ⟨fd, F⟩ := c.d.def_ 28 (d := mkD ("_law_kinds", none) "_law_kinds" "_law_kinds" s__law_kinds) rfl; exact ⟨_, fd, F, gl (c.d.fact 28 (f := .glo "_law_kinds") rfl)⟩
    d__law_asked := by obtain ⟨fd, F⟩ := c.d.def_ 29 (d := mkD ("_law_asked", none) "_law_asked" "_law_asked" s__law_asked) rfl; exact ⟨_, fd, F, gl (c.d.fact 29 (f := .glo "_law_asked") rfl)⟩
    d__law_after := by obtain ⟨fd, F⟩ := c.d.def_ 31 (d := mkD ("_law_after", none) "_law_after" "_law_after" s__law_after) rfl; exact ⟨_, fd, F, gl (c.d.fact 31 (f := .glo "_law_after") rfl)⟩
    d__law_pairs := by obtain ⟨fd, F⟩ := c.d.def_ 32 (d := mkD ("_law_pairs", none) "_law_pairs" "_law_pairs" s__law_pairs) rfl; exact ⟨_, fd, F, gl (c.d.fact 32 (f := .glo "_law_pairs") rfl)⟩
    d__law_moves := by obtain ⟨fd, F⟩ := c.d.def_ 49 (d := mkD ("_law_moves", none) "_law_moves" "_law_moves" s__law_moves) rfl; exact ⟨_, fd, F, gl (c.d.fact 49 (f := .glo "_law_moves") rfl)⟩
    d__law_kind := by obtain ⟨fd, F⟩ := c.d.def_ 21 (d := mkD ("_law_kind", none) "_law_kind" "_law_kind" s__law_kind) rfl; exact ⟨_, fd, F, gl (c.d.fact 21 (f := .glo "_law_kind") rfl)⟩
    d__law_label := by obtain ⟨fd, F⟩ := c.d.def_ 22 (d := mkD ("_law_label", none) "_law_label" "_law_label" s__law_label) rfl; exact ⟨_, fd, F, gl (c.d.fact 22 (f := .glo "_law_label") rfl)⟩
    d__law_talk := by obtain ⟨fd, F⟩ := c.d.def_ 23 (d := mkD ("_law_talk", none) "_law_talk" "_law_talk" s__law_talk) rfl; exact ⟨_, fd, F, gl (c.d.fact 23 (f := .glo "_law_talk") rfl)⟩
    d__law_table := by obtain ⟨fd, F⟩ := c.d.def_ 24 (d := mkD ("_law_table", none) "_law_table" "_law_table" s__law_table) rfl; exact ⟨_, fd, F, gl (c.d.fact 24 (f := .glo "_law_table") rfl)⟩
    d__law_payload := by obtain ⟨fd, F⟩ := c.d.def_ 47 (d := mkD ("_law_payload", none) "_law_payload" "_law_payload" s__law_payload) rfl; exact ⟨_, fd, F, gl (c.d.fact 47 (f := .glo "_law_payload") rfl)⟩
    d__law_say := by obtain ⟨fd, F⟩ := c.d.def_ 48 (d := mkD ("_law_say", none) "_law_say" "_law_say" s__law_say) rfl; exact ⟨_, fd, F, gl (c.d.fact 48 (f := .glo "_law_say") rfl)⟩
    d__law_event := by obtain ⟨fd, F⟩ := c.d.def_ 50 (d := mkD ("_law_event", none) "_law_event" "_law_event" s__law_event) rfl; exact ⟨_, fd, F, gl (c.d.fact 50 (f := .glo "_law_event") rfl)⟩
    d__law_other := by obtain ⟨fd, F⟩ := c.d.def_ 51 (d := mkD ("_law_other", none) "_law_other" "_law_other" s__law_other) rfl; exact ⟨_, fd, F, gl (c.d.fact 51 (f := .glo "_law_other") rfl)⟩
    d__law_names := by obtain ⟨fd, F⟩ := c.d.def_ 20 (d := mkD ("_law_names", none) "_law_names" "_law_names" s__law_names) rfl; exact ⟨_, fd, F, gl (c.d.fact 20 (f := .glo "_law_names") rfl)⟩
    d__law_leave := by obtain ⟨fd, F⟩ := c.d.def_ 44 (d := mkD ("_law_leave", none) "_law_leave" "_law_leave" s__law_leave) rfl; exact ⟨_, fd, F, gl (c.d.fact 44 (f := .glo "_law_leave") rfl)⟩
    d__law_do := by obtain ⟨fd, F⟩ := c.d.def_ 45 (d := mkD ("_law_do", none) "_law_do" "_law_do" s__law_do) rfl; exact ⟨_, fd, F, gl (c.d.fact 45 (f := .glo "_law_do") rfl)⟩
    d__law_message := by obtain ⟨fd, F⟩ := c.d.def_ 46 (d := mkD ("_law_message", none) "_law_message" "_law_message" s__law_message) rfl; exact ⟨_, fd, F, gl (c.d.fact 46 (f := .glo "_law_message") rfl)⟩
    d__law_take := by obtain ⟨fd, F⟩ := c.d.def_ 18 (d := mkD ("_law_take", none) "_law_take" "_law_take" s__law_take) rfl; exact ⟨_, fd, F, gl (c.d.fact 18 (f := .glo "_law_take") rfl)⟩
    d__law_pool := by obtain ⟨fd, F⟩ := c.d.def_ 19 (d := mkD ("_law_pool", none) "_law_pool" "_law_pool" s__law_pool) rfl; exact ⟨_, fd, F, gl (c.d.fact 19 (f := .glo "_law_pool") rfl)⟩
    d__law_blank := by obtain ⟨fd, F⟩ := c.d.def_ 34 (d := mkD ("_law_blank", none) "_law_blank" "_law_blank" s__law_blank) rfl; exact ⟨_, fd, F, gl (c.d.fact 34 (f := .glo "_law_blank") rfl)⟩
    m_allows := by obtain ⟨fd, F⟩ := c.d.def_ 58 (d := mkD ("Ledger", some "allows") "allows" "Ledger.allows" s_Ledger_allows) rfl; exact ⟨_, fd, F, He.meth_ok (c.d.fact 81 (f := .meth "Ledger" "allows") rfl)⟩
    m__is_running := by obtain ⟨fd, F⟩ := c.d.def_ 59 (d := mkD ("Ledger", some "_is_running") "_is_running" "Ledger._is_running" s_Ledger__is_running) rfl; exact ⟨_, fd, F, He.meth_ok (c.d.fact 82 (f := .meth "Ledger" "_is_running") rfl)⟩
    m__allows_open := by obtain ⟨fd, F⟩ := c.d.def_ 60 (d := mkD ("Ledger", some "_allows_open") "_allows_open" "Ledger._allows_open" s_Ledger__allows_open) rfl; exact ⟨_, fd, F, He.meth_ok (c.d.fact 83 (f := .meth "Ledger" "_allows_open") rfl)⟩
    m__allows_at := by obtain ⟨fd, F⟩ := c.d.def_ 61 (d := mkD ("Ledger", some "_allows_at") "_allows_at" "Ledger._allows_at" s_Ledger__allows_at) rfl; exact ⟨_, fd, F, He.meth_ok (c.d.fact 84 (f := .meth "Ledger" "_allows_at") rfl)⟩
    m__is_payload := by obtain ⟨fd, F⟩ := c.d.def_ 62 (d := mkD ("Ledger", some "_is_payload") "_is_payload" "Ledger._is_payload" s_Ledger__is_payload) rfl; exact ⟨_, fd, F, He.meth_ok (c.d.fact 85 (f := .meth "Ledger" "_is_payload") rfl)⟩
    m__is_oldest := by obtain ⟨fd, F⟩ := c.d.def_ 63 (d := mkD ("Ledger", some "_is_oldest") "_is_oldest" "Ledger._is_oldest" s_Ledger__is_oldest) rfl; exact ⟨_, fd, F, He.meth_ok (c.d.fact 86 (f := .meth "Ledger" "_is_oldest") rfl)⟩
    m_owed := by obtain ⟨fd, F⟩ := c.d.def_ 70 (d := mkD ("Ledger", some "owed") "owed" "Ledger.owed" s_Ledger_owed) rfl; exact ⟨_, fd, F, He.meth_ok (c.d.fact 93 (f := .meth "Ledger" "owed") rfl)⟩
    m_enter := by obtain ⟨fd, F⟩ := c.d.def_ 64 (d := mkD ("Ledger", some "enter") "enter" "Ledger.enter" s_Ledger_enter) rfl; exact ⟨_, fd, F, He.meth_ok (c.d.fact 87 (f := .meth "Ledger" "enter") rfl)⟩
    m__enter_open := by obtain ⟨fd, F⟩ := c.d.def_ 65 (d := mkD ("Ledger", some "_enter_open") "_enter_open" "Ledger._enter_open" s_Ledger__enter_open) rfl; exact ⟨_, fd, F, He.meth_ok (c.d.fact 88 (f := .meth "Ledger" "_enter_open") rfl)⟩
    m__enter_at := by obtain ⟨fd, F⟩ := c.d.def_ 66 (d := mkD ("Ledger", some "_enter_at") "_enter_at" "Ledger._enter_at" s_Ledger__enter_at) rfl; exact ⟨_, fd, F, He.meth_ok (c.d.fact 89 (f := .meth "Ledger" "_enter_at") rfl)⟩
    m__say := by obtain ⟨fd, F⟩ := c.d.def_ 67 (d := mkD ("Ledger", some "_say") "_say" "Ledger._say" s_Ledger__say) rfl; exact ⟨_, fd, F, He.meth_ok (c.d.fact 90 (f := .meth "Ledger" "_say") rfl)⟩
    m__hear := by obtain ⟨fd, F⟩ := c.d.def_ 68 (d := mkD ("Ledger", some "_hear") "_hear" "Ledger._hear" s_Ledger__hear) rfl; exact ⟨_, fd, F, He.meth_ok (c.d.fact 91 (f := .meth "Ledger" "_hear") rfl)⟩
    m__leave := by obtain ⟨fd, F⟩ := c.d.def_ 69 (d := mkD ("Ledger", some "_leave") "_leave" "Ledger._leave" s_Ledger__leave) rfl; exact ⟨_, fd, F, He.meth_ok (c.d.fact 92 (f := .meth "Ledger" "_leave") rfl)⟩
  }
/-! ### the end -/
theorem law_facts {P : Program} {w : World} {K : PySem.W.Frag} {h : Heap} {mg : Str → Option Value} {f : Addr} (X : K.In h) (G : h.Ns mainGlobals mg) (hfa : mg ("law" : Str) = some (.ref f)) (c : He.SaysT fa fn tabs w K) (x : exB K = true) :
    ∃ fd : FuncData, (∀ (s : Shared) (v : Value), BindsTo s fd ⟨[v], []⟩ [("_law_script", v)]) ∧ ∀ base : Heap, K.In base → base.Ns mainGlobals mg → FnOk P w K mg base CX0 15 f fd ["_law_script"] (spLaw K) := by
  obtain ⟨fd, F⟩ := c.d.def_ 56 (d := mkD ("law", none) "law" "law" s_law) rfl
  have e := hfa.symm.trans (He.glo_ok X G (c.d.fact 56 (f := .glo "law") rfl))
  cases e
  have b := FunD.bindsA (ps := ["_law_script"]) F fun _ _ _ _ _ _ us hl => match us, hl with | [_], _ => by kernel_rfl
  exact ⟨fd, fun s v => b s [v] rfl, fun base _ _ => ok_lawP (facts X G c x) F⟩
end K49
open PySem PySem.W PySem.Calls PyProof.Rows
theorem PySem.Challenge.cw_pourparler_k49_whole_accepted_traces_holds : PySem.Challenge.rw_pourparler_k49_whole_accepted_traces.Holds := by
  refine K49.head_end fun w mg fa h Y G hmg => ?_
  obtain ⟨K, KX, c, x⟩ := Y
  obtain ⟨fd, hb, hF⟩ := K49.law_facts (P := (PySem.Challenge.rw_pourparler_k49_whole_accepted_traces).prog) (w := w) KX G hmg c x
  exact ⟨K, fd, K49.spLaw K, KX, hb, fun H a ns hl _ hS => ⟨a, ns, rfl, hS, fun _ => rfl⟩, hF⟩
namespace K49
end K49
