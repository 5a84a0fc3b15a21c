import PyProof.Rows.All
import Wide.All
import OpenK.AllK
import Wide.FinOn
import KE.KStateDown
import Lean
import HandS.ForMost
import HandS.Defaults
import HandS.Property
import HandS.ClsMeth
import HandS.Star
import HandS.IsInst
import HandS.Head0
import HandS.Head1
import HandS.Head2
import HandS.HeadEnd
import HandS.HeadHook1
import HandS.HeadHook2
import HandS.HeadHook3
import HandS.FStr
import HandS.WideBits
import HandS.TupAny
import HandS.Conv
import HandS.Style
import KE.KCallOwn
import HandS.Walk
import KE.GoesEnum
import PySem.Challenge.RW_fourways_k61_whole_fewest_and_columns_ce
set_option Elab.async false
set_option linter.all false
section
set_option Elab.async false
set_option linter.all false
set_option maxRecDepth 100000
set_option maxHeartbeats 2000000
/-! What the head tells: defs that stand behind a classmethod or a property too, checks of one's own. -/
namespace FwK
open PySem PySem.Spec PyProof.Rows L2 He
/-- the first item of a record of this kind at the class's attribute m -/
def recAd (K : PySem.W.Frag) (T : String) (C : Addr) (m : Str) : Addr := match PySem.W.recIn K (ma K C m) T with
  | some (.ref g :: _) => g
  | _ => 0
/-- a def found by a path of one's own -/
structure PathD where
  at_ : PySem.W.Frag → Addr
  name : Str
  qual : Str
  params : Arguments
  body : List Stmt
  scope : Scope
def lookF (K : PySem.W.Frag) (a : Addr) : FnW := match K.lookup a with
  | some ⟨_, _, .func fd, _⟩ => some (fd.name, fd.qualname, fd.params, fd.body, fd.scope, fd.globals, fd.closure, fd.builtins)
  | _ => none
def PathD.val (d : PathD) : FnW := some (d.name, d.qual, d.params, .stmts d.body, d.scope, mainGlobals, [], builtinsNs)
def PathD.ok (K : PySem.W.Frag) (d : PathD) : Bool := PySem.W.keepIn K (.ref (d.at_ K)) && (match K.lookup (d.at_ K) with
  | some ⟨_, _, .func fd, _⟩ => PySem.W.codeIn K fd.code d.qual && dflB K fd.defaults []
  | _ => false)
theorem PathD.funD {K : PySem.W.Frag} {d : PathD} (hv : lookF K (d.at_ K) = d.val) (hk : d.ok K = true) : ∃ fd, FunD K d.name d.qual d.params d.body d.scope [] [] (d.at_ K) fd := by
  obtain ⟨hkeep, hrest⟩ := Bool.and_eq_true_iff.mp hk
  unfold lookF at hv
  cases hl : K.lookup (d.at_ K) with
  | none => rw [hl] at hrest; cases hrest
  | some ob =>
    obtain ⟨oc, od, dat, osl⟩ := ob
    rw [hl] at hrest hv
    cases dat with
    | func fd =>
      obtain ⟨a1, a2, a3, a4, a5, a6, a7, a8, a9, a10, a11, a12, a13, a14, a15⟩ := fd
      have hv2 : (some (a1, a2, a3, a4, a5, a6, a7, a15) : FnW) = some (d.name, d.qual, d.params, .stmts d.body, d.scope, mainGlobals, [], builtinsNs) := hv
      simp only [Option.some.injEq, Prod.mk.injEq] at hv2
      obtain ⟨rfl, rfl, rfl, rfl, rfl, rfl, rfl, rfl⟩ := hv2
      obtain ⟨hc, hdf⟩ := Bool.and_eq_true_iff.mp (show (PySem.W.codeIn K a13 d.qual && dflB K a8 []) = true from hrest)
      exact ⟨_, ⟨oc, od, a8, a9, a10, a11, a12, a13, a14, osl, rfl, hl, hc, dflB_ok hdf, Or.inl rfl⟩, hkeep⟩
    | _ => cases hrest
/-! ### the Hook -/
abbrev AlP : Type := AlT × (Bool × List FnW)
def obsP (fa : List Fa) (fn : List DefD) (ts : List Tab) (gs : List PathD) (ex : PySem.W.Frag → Bool) (K : PySem.W.Frag) : AlP := (obsT fa fn ts K, (ex K && gs.all fun d => d.ok K, gs.map fun d => lookF K (d.at_ K)))
def valP (fn : List DefD) (ts : List Tab) (gs : List PathD) (w : World) : AlP := (valT fn ts w, (true, gs.map PathD.val))
def SaysP (fa : List Fa) (fn : List DefD) (ts : List Tab) (gs : List PathD) (ex : PySem.W.Frag → Bool) (w : World) (K : PySem.W.Frag) : Prop := obsP fa fn ts gs ex K = valP fn ts gs w
/-- a part of the heap, its spine and its objects brought to their form before it is handed on -/
def partK {α : Type} (g : Addr → Option Obj) : List Addr → (PySem.W.Frag → α) → α
  | [], k => k []
  | a :: r, k => match g a with
    | some ⟨c, d, t, sl⟩ => partK g r fun l => k ((a, ⟨c, d, t, sl⟩) :: l)
    | none => partK g r k
theorem partK_eq {α : Type} (g : Addr → Option Obj) : ∀ (as : List Addr) (k : PySem.W.Frag → α), partK g as k = k (frG g as)
  | [], k => rfl
  | a :: r, k => by
    unfold partK frG
    rw [List.filterMap_cons]
    cases h : g a with
    | none => exact partK_eq g r k
    | some o => exact partK_eq g r _
def lookP (as : List Addr) (fa : List Fa) (fn : List DefD) (ts : List Tab) (gs : List PathD) (ex : PySem.W.Frag → Bool) (g : Addr → Option Obj) : AlP := partK g as fun K => obsP fa fn ts gs ex K
def hookP (as : List Addr) (fa : List Fa) (fn : List DefD) (ts : List Tab) (gs : List PathD) (ex : PySem.W.Frag → Bool) : PySem.W.Hook where
  α := AlP
  obs := fun s => lookP as fa fn ts gs ex s.heap.get?
  val := fun w => valP fn ts gs w
  says := fun w h => ∃ K : PySem.W.Frag, K.In h ∧ SaysP fa fn ts gs ex w K
  of := fun _ s e => ⟨frG s.heap.get? as, frG_in, (partK_eq _ _ _).symm.trans e⟩
  keeps := fun _ _ _ ⟨K, hin, says⟩ kept => ⟨K, PySem.W.Frag.In.keeps hin kept, says⟩
theorem lookP_eq {as : List Addr} {fa : List Fa} {fn : List DefD} {ts : List Tab} {gs : List PathD} {ex : PySem.W.Frag → Bool} {g : Addr → Option Obj} {s : Shared} (h : ∀ a, g a = s.heap.get? a) : lookP as fa fn ts gs ex g = (hookP as fa fn ts gs ex).obs s := by
  rw [show g = s.heap.get? from funext h]
  rfl
section
variable {fa : List Fa} {fn : List DefD} {ts : List Tab} {gs : List PathD} {ex : PySem.W.Frag → Bool} {w : World} {K : PySem.W.Frag}
theorem SaysP.t (c : SaysP fa fn ts gs ex w K) : SaysT fa fn ts w K := congrArg (fun z : AlP => z.1) c
theorem SaysP.more (c : SaysP fa fn ts gs ex w K) : ex K = true := (Bool.and_eq_true_iff.mp (congrArg (fun z : AlP => z.2.1) c)).1
theorem SaysP.path (c : SaysP fa fn ts gs ex w K) (i : Nat) {d : PathD} (h : gs[i]? = some d := by rfl) : ∃ fd, FunD K d.name d.qual d.params d.body d.scope [] [] (d.at_ K) fd := by
  have h1 := (Bool.and_eq_true_iff.mp (congrArg (fun z : AlP => z.2.1) c)).2
  have h2 : gs.map (fun d => lookF K (d.at_ K)) = gs.map PathD.val := congrArg (fun z : AlP => z.2.2) c
  have h3 : (gs.map (fun d => lookF K (d.at_ K)))[i]? = (gs.map PathD.val)[i]? := by rw [h2]
  rw [List.getElem?_map, List.getElem?_map, h] at h3
  exact PathD.funD (Option.some.inj h3) (List.all_eq_true.mp h1 d (List.mem_of_getElem? h))
end
/-! ### checks of a class's attributes -/
/-- C.m is a classmethod, read as the library reads it -/
def cmB (K : PySem.W.Frag) (C : Addr) (m : Str) : Bool := PySem.W.readsIn K C (.type "type") && (eqO (PySem.W.specialIn K (.ref C) "__getattribute__") (some (some (.builtin "type.__getattribute__"))) &&
  ((match PySem.W.findCls K (.ref C) (.type "type") m with
    | some (.get (.builtin g) (.ref p) .none (.ref c)) => decide (g = "classmethod.__get__") && (decide (p = ma K C m) && decide (c = C))
    | _ => false) && ((match PySem.W.recIn K (ma K C m) "classmethod" with
    | some (.ref _ :: _) => true
    | _ => false) && PySem.W.fnIn K (recAd K "classmethod" C m))))
theorem cmB_ok {K : PySem.W.Frag} {C : Addr} {m : Str} (h : cmB K C m = true) : ClX.CRead K C (.type "type") ∧ ClX.CMet K C (.type "type") m (ma K C m) (recAd K "classmethod" C m) := by
  obtain ⟨h1, h⟩ := Bool.and_eq_true_iff.mp h
  obtain ⟨h2, h⟩ := Bool.and_eq_true_iff.mp h
  obtain ⟨h3, h⟩ := Bool.and_eq_true_iff.mp h
  obtain ⟨h4, h5⟩ := Bool.and_eq_true_iff.mp h
  refine ⟨⟨h1, eqO_ok h2⟩, ⟨?_, ?_, h5⟩⟩
  · split at h3
    · rename_i g p c e
      obtain ⟨k1, k⟩ := Bool.and_eq_true_iff.mp h3
      obtain ⟨k2, k3⟩ := Bool.and_eq_true_iff.mp k
      rw [e, of_decide_eq_true k1, of_decide_eq_true k2, of_decide_eq_true k3]
    · cases h3
  · split at h4
    · rename_i g rest e
      refine ⟨rest, ?_⟩
      rw [e]
      have : recAd K "classmethod" C m = g := by unfold recAd; rw [e]
      rw [this]
    · cases h4
/-- C.f is a property -/
def prB (K : PySem.W.Frag) (C : Addr) (f : Str) : Bool := eqO (PySem.W.findIn K (.ref C) f) (some (some (.ref (ma K C f)))) && (eqO (PySem.W.specialIn K (.ref (ma K C f)) "__get__") (some (some (.builtin "property.__get__"))) &&
  (decide (PySem.W.takesIn K (.ref (ma K C f)) = some true) && (match PySem.W.recIn K (ma K C f) "property" with
    | some (.ref _ :: _) => true
    | _ => false)))
theorem prB_ok {K : PySem.W.Frag} {C : Addr} {f : Str} (h : prB K C f = true) : PropOf K C f (ma K C f) (recAd K "property" C f) := by
  obtain ⟨h1, h⟩ := Bool.and_eq_true_iff.mp h
  obtain ⟨h2, h⟩ := Bool.and_eq_true_iff.mp h
  obtain ⟨h3, h4⟩ := Bool.and_eq_true_iff.mp h
  refine ⟨eqO_ok h1, eqO_ok h2, of_decide_eq_true h3, ?_⟩
  split at h4
  · rename_i g rest e
    refine ⟨rest, ?_⟩
    rw [e]
    have : recAd K "property" C f = g := by unfold recAd; rw [e]
    rw [this]
  · cases h4
/-- isinstance of an instance of C against C -/
def isB (K : PySem.W.Frag) (C : Addr) : Bool := eqO (PySem.W.findIn K (.ref C) "__class__") (some (some (.builtin "object.__class__"))) && (eqO (PySem.W.specialIn K (.builtin "object.__class__") "__get__") (some (some (.builtin "getset_descriptor.__get__"))) &&
  (decide (PySem.W.takesIn K (.builtin "object.__class__") = some true) && (decide (PySem.W.mroIn K C (.type "object") = some true) && decide (PySem.W.kitOne K (.ref C) (.ref C) = some true))))
theorem isB_ok {K : PySem.W.Frag} {C : Addr} (h : isB K C = true) (cl : Cls K C) : (∀ (H : Hp) (a dx : Addr) (fs : List (Str × V)), H a = some (.ins C dx fs) → TyX K H (.ref a) (.ref C)) ∧ PySem.W.kitOne K (.ref C) (.ref C) = some true := by
  obtain ⟨h1, h⟩ := Bool.and_eq_true_iff.mp h
  obtain ⟨h2, h⟩ := Bool.and_eq_true_iff.mp h
  obtain ⟨h3, h⟩ := Bool.and_eq_true_iff.mp h
  obtain ⟨h4, h5⟩ := Bool.and_eq_true_iff.mp h
  exact ⟨fun H a dx fs e => .base (.ins e cl (eqO_ok h1) (eqO_ok h2) (of_decide_eq_true h3) (of_decide_eq_true h4)), of_decide_eq_true h5⟩
end FwK
end
section
set_option Elab.async false
set_option linter.all false
set_option maxRecDepth 100000
set_option maxHeartbeats 0
/-! The head: the text by places, the defs that the walk takes, facts, the run of the top. Printed by gen_head.py. -/
namespace FwH
open PySem PySem.Spec PyProof.Rows L2
def top (i : Nat) : Stmt := PySem.Challenge.pw_fourways_k61_whole_fewest_and_columns_ce.main.body.getD i (.Pass ⟨0, 0, 0, 0⟩)
abbrev s_binomial : Stmt := top 2
abbrev s_doubled : Stmt := top 3
abbrev s_text_with : Stmt := top 4
abbrev s_index_with : Stmt := top 5
abbrev s_text_by_ones : Stmt := top 6
abbrev s_index_by_ones : Stmt := top 7
abbrev s_is_integer_values : Stmt := top 28
abbrev s_is_index : Stmt := top 30
abbrev s_is_signs_values : Stmt := top 31
abbrev s_is_way : Stmt := top 33
abbrev s_check_way : Stmt := top 34
abbrev s_check_switches : Stmt := top 35
abbrev s_check_few_switches : Stmt := top 36
abbrev s_sides_of : Stmt := top 42
abbrev s_most_of : Stmt := top 43
abbrev s_fewest_of : Stmt := top 44
abbrev s_head_of : Stmt := top 45
abbrev s_ones_of : Stmt := top 46
abbrev s_column_of : Stmt := top 47
abbrev s_index_of : Stmt := top 48
abbrev s_demand_of : Stmt := top 50
abbrev s_check_demand : Stmt := top 51
abbrev s_check_asked : Stmt := top 52
abbrev s_demand_with : Stmt := top 54
abbrev s_wrong_trial : Stmt := top 56
abbrev s_best_plan : Stmt := top 65
abbrev s_certify_fewest : Stmt := top 67
abbrev s_certify_column : Stmt := top 68
abbrev s_is_integer_checker : Stmt := top 73
abbrev s_is_number : Stmt := top 75
abbrev s_is_signs_checker : Stmt := top 76
abbrev s_is_rising : Stmt := top 78
abbrev s_ways_in_checker : Stmt := top 79
abbrev s_chosen : Stmt := top 87
abbrev s_powered : Stmt := top 88
abbrev s_split_of : Stmt := top 89
abbrev s_most_for : Stmt := top 90
abbrev s_fewest_for : Stmt := top 91
abbrev s_rank_of : Stmt := top 92
abbrev s_place_of : Stmt := top 93
abbrev s_shows_fewest : Stmt := top 94
abbrev s_shows_column : Stmt := top 95
abbrev s_accepts : Stmt := top 103
abbrev s_law_purse : Stmt := top 105
abbrev s_law_take : Stmt := top 106
abbrev s_law_big : Stmt := top 107
abbrev s_law_ways : Stmt := top 108
abbrev s_law_line : Stmt := top 109
abbrev s_law_choose : Stmt := top 110
abbrev s_law_most : Stmt := top 111
abbrev s_law_some_many : Stmt := top 112
abbrev s_law_row : Stmt := top 113
abbrev s_law_fits : Stmt := top 114
abbrev s_law_kept : Stmt := top 115
abbrev s_law_judged : Stmt := top 117
abbrev s_law_told_fewest : Stmt := top 118
abbrev s_law_told_column : Stmt := top 119
abbrev s_law_two_right : Stmt := top 120
abbrev s_law_right : Stmt := top 121
abbrev s_law : Stmt := top 122
abbrev sDemand_init : Stmt := inClass (top 49) 0
abbrev sDemand_fewest : Stmt := inClass (top 49) 5
abbrev sDemand_column : Stmt := inClass (top 49) 6
abbrev sDemand_place : Stmt := inClass (top 49) 7
abbrev sDemand_str : Stmt := inClass (top 49) 16
abbrev sPlan_init : Stmt := inClass (top 60) 0
abbrev sDemand_read : Stmt := inClass (top 49) 1
abbrev sDemand_ways : Stmt := inClass (top 49) 2
abbrev sPlan_best : Stmt := inClass (top 60) 2
abbrev sPlan_columns : Stmt := inClass (top 60) 5
/-- the empty tuple that stands as the default of Plan.__init__ -/
def emptyT : PySem.W.Frag → Addr := He.dflAt ("Plan", some "__init__") 0
abbrev dd (g x : Str) (st : Stmt) : He.DefD := ⟨(g, none), x, x, defArgs st, defBody st, defScope st, [], []⟩
def fn : List He.DefD := [dd "binomial" "binomial" s_binomial,
  dd "doubled" "doubled" s_doubled,
  dd "text_with" "text_with" s_text_with,
  dd "index_with" "index_with" s_index_with,
  dd "text_by_ones" "text_by_ones" s_text_by_ones,
  dd "index_by_ones" "index_by_ones" s_index_by_ones,
  dd "is_integer_values" "is_integer" s_is_integer_values,
  dd "is_index" "is_index" s_is_index,
  dd "is_signs_values" "is_signs" s_is_signs_values,
  dd "is_way" "is_way" s_is_way,
  dd "check_way" "check_way" s_check_way,
  dd "check_switches" "check_switches" s_check_switches,
  dd "check_few_switches" "check_few_switches" s_check_few_switches,
  dd "sides_of" "sides_of" s_sides_of,
  dd "most_of" "most_of" s_most_of,
  dd "fewest_of" "fewest_of" s_fewest_of,
  dd "head_of" "head_of" s_head_of,
  dd "ones_of" "ones_of" s_ones_of,
  dd "column_of" "column_of" s_column_of,
  dd "index_of" "index_of" s_index_of,
  dd "demand_of" "demand_of" s_demand_of,
  dd "check_demand" "check_demand" s_check_demand,
  dd "check_asked" "check_asked" s_check_asked,
  dd "demand_with" "demand_with" s_demand_with,
  dd "wrong_trial" "wrong_trial" s_wrong_trial,
  dd "best_plan" "best_plan" s_best_plan,
  dd "certify_fewest" "certify_fewest" s_certify_fewest,
  dd "certify_column" "certify_column" s_certify_column,
  dd "is_integer_checker" "is_integer" s_is_integer_checker,
  dd "is_number" "is_number" s_is_number] ++ [
  dd "is_signs_checker" "is_signs" s_is_signs_checker,
  dd "is_rising" "is_rising" s_is_rising,
  dd "ways_in_checker" "ways_in" s_ways_in_checker,
  dd "chosen" "chosen" s_chosen,
  dd "powered" "powered" s_powered,
  dd "split_of" "split_of" s_split_of,
  dd "most_for" "most_for" s_most_for,
  dd "fewest_for" "fewest_for" s_fewest_for,
  dd "rank_of" "rank_of" s_rank_of,
  dd "place_of" "place_of" s_place_of,
  dd "shows_fewest" "shows_fewest" s_shows_fewest,
  dd "shows_column" "shows_column" s_shows_column,
  dd "accepts" "accepts" s_accepts,
  dd "_law_purse" "_law_purse" s_law_purse,
  dd "_law_take" "_law_take" s_law_take,
  dd "_law_big" "_law_big" s_law_big,
  dd "_law_ways" "_law_ways" s_law_ways,
  dd "_law_line" "_law_line" s_law_line,
  dd "_law_choose" "_law_choose" s_law_choose,
  dd "_law_most" "_law_most" s_law_most,
  dd "_law_some_many" "_law_some_many" s_law_some_many,
  dd "_law_row" "_law_row" s_law_row,
  dd "_law_fits" "_law_fits" s_law_fits,
  dd "_law_kept" "_law_kept" s_law_kept,
  dd "_law_judged" "_law_judged" s_law_judged,
  dd "_law_told_fewest" "_law_told_fewest" s_law_told_fewest,
  dd "_law_told_column" "_law_told_column" s_law_told_column,
  dd "_law_two_right" "_law_two_right" s_law_two_right,
  dd "_law_right" "_law_right" s_law_right,
  dd "law" "law" s_law] ++ [
  ⟨("Demand", some "__init__"), "__init__", "Demand.__init__", defArgs sDemand_init, defBody sDemand_init, defScope sDemand_init, [], []⟩,
  ⟨("Demand", some "fewest"), "fewest", "Demand.fewest", defArgs sDemand_fewest, defBody sDemand_fewest, defScope sDemand_fewest, [], []⟩,
  ⟨("Demand", some "column"), "column", "Demand.column", defArgs sDemand_column, defBody sDemand_column, defScope sDemand_column, [], []⟩,
  ⟨("Demand", some "place"), "place", "Demand.place", defArgs sDemand_place, defBody sDemand_place, defScope sDemand_place, [], []⟩,
  ⟨("Demand", some "__str__"), "__str__", "Demand.__str__", defArgs sDemand_str, defBody sDemand_str, defScope sDemand_str, [], []⟩,
  ⟨("Plan", some "__init__"), "__init__", "Plan.__init__", defArgs sPlan_init, defBody sPlan_init, defScope sPlan_init, [.adr emptyT], []⟩]
def fa : List He.Fa := [.glo "binomial", .glo "doubled", .glo "text_with", .glo "index_with", .glo "text_by_ones", .glo "index_by_ones", .glo "is_integer_values", .glo "is_index", .glo "is_signs_values", .glo "is_way", .glo "check_way", .glo "check_switches", .glo "check_few_switches", .glo "sides_of", .glo "most_of", .glo "fewest_of", .glo "head_of", .glo "ones_of", .glo "column_of", .glo "index_of", .glo "demand_of", .glo "check_demand", .glo "check_asked", .glo "demand_with", .glo "wrong_trial"] ++
  [.glo "best_plan", .glo "certify_fewest", .glo "certify_column", .glo "is_integer_checker", .glo "is_number", .glo "is_signs_checker", .glo "is_rising", .glo "ways_in_checker", .glo "chosen", .glo "powered", .glo "split_of", .glo "most_for", .glo "fewest_for", .glo "rank_of", .glo "place_of", .glo "shows_fewest", .glo "shows_column", .glo "accepts", .glo "_law_purse", .glo "_law_take", .glo "_law_big", .glo "_law_ways", .glo "_law_line", .glo "_law_choose", .glo "_law_most"] ++
  [.glo "_law_some_many", .glo "_law_row", .glo "_law_fits", .glo "_law_kept", .glo "_law_judged", .glo "_law_told_fewest", .glo "_law_told_column", .glo "_law_two_right", .glo "_law_right", .glo "law", .glo "Demand", .glo "Plan", .glo "WAYS_values", .glo "WAYS_checker", .glo "SAME", .glo "SIZES", .free "len", .free "range", .free "max", .free "min", .free "sum", .free "all", .free "any", .free "list", .free "tuple"] ++
  [.free "int", .free "isinstance", .free "str", .free "bool", .free "abs", .free "enumerate", .free "repr", .int "MOST_SWITCHES" 64, .int "MOST_TRIALS" 64, .int "MOST_ASKED_demands" (10 ^ 40), .int "MOST_ASKED_checker" (10 ^ 40), .cls "Demand", .cls "Plan", .noat "Demand" "kept", .noat "Plan" "many", .noat "Plan" "rows", .meth "Demand" "fewest", .meth "Demand" "column", .meth "Demand" "place", .meth "Demand" "__str__", .mkr "Demand", .mkr "Plan"]
def ts : List He.Tab := [(fun K => He.ga K "SAME", ["", "00", "11", "00 11"]), (fun K => He.ga K "SIZES", ["keeps", "lacks", "fewest", "column", "room", "faults", "enough"])]
def gs : List FwK.PathD := [⟨fun K => FwK.recAd K "classmethod" (He.ga K "Demand") "read", "read", "Demand.read", defArgs sDemand_read, defBody sDemand_read, defScope sDemand_read⟩,
  ⟨fun K => FwK.recAd K "property" (He.ga K "Demand") "ways", "ways", "Demand.ways", defArgs sDemand_ways, defBody sDemand_ways, defScope sDemand_ways⟩,
  ⟨fun K => FwK.recAd K "classmethod" (He.ga K "Plan") "best", "best", "Plan.best", defArgs sPlan_best, defBody sPlan_best, defScope sPlan_best⟩,
  ⟨fun K => FwK.recAd K "property" (He.ga K "Plan") "columns", "columns", "Plan.columns", defArgs sPlan_columns, defBody sPlan_columns, defScope sPlan_columns⟩]
def ex (K : PySem.W.Frag) : Bool := He.tupB K "WAYS_values" [.str "00", .str "01", .str "10", .str "11"] && (He.tupB K "WAYS_checker" [.str "00", .str "01", .str "10", .str "11"] &&
  (He.valsB K (He.ga K "SAME") [("", .str ""), ("00", .str "0"), ("11", .str "1"), ("00 11", .str "10")] && (He.valsB K (He.ga K "SIZES") [("fewest", .int 4), ("column", .int 5)] &&
  (FwK.cmB K (He.ga K "Demand") "read" && (FwK.cmB K (He.ga K "Plan") "best" && (FwK.prB K (He.ga K "Demand") "ways" && (FwK.prB K (He.ga K "Plan") "columns" && (FwK.isB K (He.ga K "Demand") &&
  (match K.lookup (emptyT K) with
    | some ⟨.type c, _, .seq its _, _⟩ => decide (c = "tuple") && its.isEmpty
    | _ => false)))))))))
/-- where these stand behind the top -/
def need : List Addr := ([3, 2, 515, 732, 514, 731, 406, 415, 602, 625, 278, 782, 338, 783, 404, 414, 600, 624, 28, 35, 42, 49, 56, 61, 285, 292, 297, 304, 311, 318, 325, 343, 350, 357, 364] : List Nat) ++ ([371, 378, 385, 526, 533, 540, 550, 557, 767, 774, 781, 790, 797, 804, 809, 814, 853, 860, 867, 874, 881, 888, 893, 900, 907, 953, 960, 967, 974, 979, 986, 993, 998, 1005, 1012] : List Nat) ++ ([1017, 1022, 1034, 1041, 1046, 1051, 1058, 1065, 397, 436, 443, 450, 505, 583, 403, 413, 599, 623, 27, 34, 41, 48, 55, 60, 284, 291, 296, 303, 310, 317, 324, 342, 349, 356, 363] : List Nat) ++ ([370, 377, 384, 525, 532, 539, 549, 556, 766, 773, 780, 789, 796, 803, 808, 813, 852, 859, 866, 873, 880, 887, 892, 899, 906, 952, 959, 966, 973, 978, 985, 992, 997, 1004, 1011] : List Nat) ++ ([1016, 1021, 1033, 1040, 1045, 1050, 1057, 1064, 396, 435, 442, 449, 504, 582, 576, 575] : List Nat)
abbrev R : PySem.W.OpenRow := PySem.W.OpenLaw.row PySem.Challenge.rw_fourways_k61_whole_fewest_and_columns_ce
abbrev qv : Program := PySem.W.view R.prog [122]
def names : List PySem.Str := (["_wall", "binomial", "doubled", "text_with", "index_with", "text_by_ones", "index_by_ones", "WrongValue", "NoAnswer", "InvalidText", "InvalidNumber", "InvalidIndex", "InvalidWay", "InvalidColumn", "OtherSize", "NotADemand", "NotAPlan", "InvalidTrials", "TooMany", "MOST_SWITCHES", "MOST_TRIALS", "MOST_COUNTED", "MOST_FREE", "WAYS_values", "DIGITS", "is_integer", "is_integer_values", "is_index", "is_signs", "is_signs_values"] : List PySem.Str) ++ (["is_way", "check_way", "check_switches", "check_few_switches", "check_two", "number_of", "MOST_ASKED_demands", "SAME", "sides_of", "most_of", "fewest_of", "head_of", "ones_of", "column_of", "index_of", "Demand", "demand_of", "check_demand", "check_asked", "exchanged", "demand_with", "wrong_trial", "ways_in", "ways_in_plans", "lacks_of", "Plan", "repeated", "sized", "check_plan", "plan_with"] : List PySem.Str) ++ (["best_plan", "certify_fewest", "certify_column", "WAYS_checker", "MOST_ASKED_checker", "SIZES", "is_integer_checker", "is_number", "is_signs_checker", "is_rising", "ways_in_checker", "plan_in", "pairs_of", "missing_of", "shows_keeps", "is_fault", "shows_lacks", "chosen", "powered", "split_of", "most_for", "fewest_for", "rank_of", "place_of", "shows_fewest", "shows_column", "share_of", "divisor_of", "weight_of", "shows_room"] : List PySem.Str) ++ (["shows_faults", "can_be_shown", "shows_enough", "accepts", "_law_purse", "_law_take", "_law_big", "_law_ways", "_law_line", "_law_choose", "_law_most", "_law_some_many", "_law_row", "_law_fits", "_law_kept", "_law_rows", "_law_judged", "_law_told_fewest", "_law_told_column", "_law_two_right", "_law_right"] : List PySem.Str)
abbrev hk : PySem.W.Hook := FwK.hookP need fa fn ts gs ex
def ob (s : PySem.W.SharedT) : FwK.AlP := FwK.lookP need fa fn ts gs ex (HandSHeadRun.getT s)
theorem ob_eq (s : PySem.W.SharedT) : ob s = hk.obs s.abs := FwK.lookP_eq (HandSHeadRun.getT_eq s)
theorem runF (w : World) : HandSHeadRun.RunEq R qv hk ob 9000 names (w.withFollow "special-get-raises" false) := by
  intro os
  kernel_rfl
theorem runT (w : World) : HandSHeadRun.RunEq R qv hk ob 9000 names (w.withFollow "special-get-raises" true) := by
  intro os
  kernel_rfl
theorem run (w : World) : HandSHeadRun.RunEq R qv hk ob 9000 names w := PySem.W.byRow2 "special-get-raises" (P := fun w => HandSHeadRun.RunEq R qv hk ob 9000 names w) runF runT w
end FwH
end
section
/-! Binomials and texts of signs by their number: the mathematics of the fewest trials and of the columns. -/
namespace Fw

/-- Pascal's numbers -/
def C : Nat → Nat → Nat
  | _, 0 => 1
  | 0, _ + 1 => 0
  | n + 1, k + 1 => C n k + C n (k + 1)
theorem C_zero (n : Nat) : C n 0 = 1 := by cases n <;> rfl
theorem C_step (n k : Nat) : C (n + 1) (k + 1) = C n k + C n (k + 1) := rfl
theorem C_big : ∀ {n k : Nat}, n < k → C n k = 0
  | 0, k + 1, _ => rfl
  | n + 1, k + 1, h => by
    rw [C_step, C_big (n := n) (k := k) (by omega), C_big (n := n) (k := k + 1) (by omega)]
theorem C_self : ∀ n : Nat, C n n = 1
  | 0 => rfl
  | n + 1 => by rw [C_step, C_self n, C_big (Nat.lt_succ_self n)]
theorem C_pos : ∀ {n k : Nat}, k ≤ n → 0 < C n k
  | n, 0, _ => by rw [C_zero]; decide
  | n + 1, k + 1, h => by
    rw [C_step]
    have := C_pos (n := n) (k := k) (by omega)
    omega
/-- (k + 1) C(n, k + 1) = (n - k) C(n, k) -/
theorem C_next : ∀ n k : Nat, C n (k + 1) * (k + 1) = C n k * (n - k)
  | 0, 0 => rfl
  | 0, k + 1 => by rw [C_big (by omega), C_big (n := 0) (k := k + 1) (by omega)]; simp
  | n + 1, 0 => by
    have h := C_next n 0
    rw [C_step, C_zero, C_zero] at *
    simp only [Nat.zero_add, Nat.mul_one, Nat.sub_zero, Nat.one_mul] at *
    omega
  | n + 1, k + 1 => by
    by_cases hk : k ≤ n
    · have h1 := C_next n (k + 1)
      have h2 := C_next n k
      rw [C_step n (k + 1), C_step n k]
      obtain ⟨d, rfl⟩ := Nat.exists_eq_add_of_le hk
      have e1 : k + d + 1 - (k + 1) = d := by omega
      have e2 : k + d - k = d := by omega
      rw [e1]
      rw [e2] at h2
      cases d with
      | zero =>
        rw [C_big (show k + 0 < k + 1 by omega), C_big (show k + 0 < k + 1 + 1 by omega)]
        simp
      | succ d =>
        have e3 : k + (d + 1) - (k + 1) = d := by omega
        rw [e3] at h1
        generalize C (k + (d + 1)) (k + 1 + 1) = x at *
        generalize C (k + (d + 1)) (k + 1) = y at *
        generalize C (k + (d + 1)) k = z at *
        have a1 : (y + x) * (k + 1 + 1) = y * (k + 1) + y + x * (k + 1 + 1) := by
          rw [Nat.add_mul, Nat.mul_add y (k + 1) 1, Nat.mul_one]
        have a2 : (z + y) * (d + 1) = z * (d + 1) + (y * d + y) := by
          rw [Nat.add_mul, Nat.mul_add y d 1, Nat.mul_one]
        rw [a1, a2, h1, h2]
        omega
    · rw [C_big (show n + 1 < k + 1 + 1 by omega), C_big (show n + 1 < k + 1 by omega)]
      simp
/-- (n + 1) C(n, r) = (n + 1 - r) C(n + 1, r) -/
theorem C_drop (n r : Nat) : C (n + 1) r * (n + 1 - r) = (n + 1) * C n r := by
  cases r with
  | zero => rw [C_zero, C_zero]; omega
  | succ k =>
    by_cases hk : k ≤ n
    · have h := C_next n k
      rw [C_step]
      obtain ⟨d, rfl⟩ := Nat.exists_eq_add_of_le hk
      have e1 : k + d + 1 - (k + 1) = d := by omega
      have e2 : k + d - k = d := by omega
      rw [e1]
      rw [e2] at h
      generalize C (k + d) (k + 1) = y at *
      generalize C (k + d) k = z at *
      rw [Nat.add_mul, ← h, ← Nat.mul_add, Nat.mul_comm]
      congr 1
      omega
    · rw [C_big (show n + 1 < k + 1 by omega), C_big (show n < k + 1 by omega)]
      simp
theorem C_drop_div (n r : Nat) : C (n + 1) r * (n + 1 - r) / (n + 1) = C n r := by
  rw [C_drop]
  exact Nat.mul_div_cancel_left _ (by omega)
theorem C_next_div (n k : Nat) : C n k * (n - k) / (k + 1) = C n (k + 1) := by
  rw [← C_next]
  exact Nat.mul_div_cancel _ (by omega)
theorem C_sym : ∀ (a b : Nat), C (a + b) a = C (a + b) b
  | 0, b => by rw [C_zero, Nat.zero_add, C_self]
  | a + 1, 0 => by rw [C_zero, Nat.add_zero, C_self]
  | a + 1, b + 1 => by
    have e1 : a + 1 + (b + 1) = (a + (b + 1)) + 1 := by omega
    have e2 : a + (b + 1) = (a + 1) + b := by omega
    rw [e1, C_step, C_step, C_sym a (b + 1)]
    rw [e2, C_sym (a + 1) b]
    omega
theorem C_sym' {n r : Nat} (h : r ≤ n) : C n (n - r) = C n r := by
  have := C_sym r (n - r)
  rw [Nat.add_sub_cancel' h] at this
  exact this.symm
theorem C_le_up (n k : Nat) : C n k ≤ C (n + 1) k := by
  cases k with
  | zero => rw [C_zero, C_zero]; exact Nat.le_refl _
  | succ k => rw [C_step]; omega
theorem C_le_diag (n k : Nat) : C n k ≤ C (n + 1) (k + 1) := by
  rw [C_step]; omega
/-- the same by one product and one quotient a step -/
def Cm (n r : Nat) : Nat := (List.range r).foldl (fun f k => f * (n - k) / (k + 1)) 1
theorem Cm_eq (n : Nat) : ∀ r, Cm n r = C n r
  | 0 => by rw [C_zero]; rfl
  | r + 1 => by
    have h := Cm_eq n r
    unfold Cm at *
    rw [List.range_succ, List.foldl_append, h]
    exact C_next_div n r

/-! ### sums of a row -/
/-- C(n, 0) + .. + C(n, k - 1) -/
def rowS (n : Nat) : Nat → Nat
  | 0 => 0
  | k + 1 => rowS n k + C n k
theorem rowS_pas (n : Nat) : ∀ k, rowS (n + 1) (k + 1) = rowS n (k + 1) + rowS n k
  | 0 => by show 0 + C (n + 1) 0 = (0 + C n 0) + 0; rw [C_zero, C_zero]
  | k + 1 => by
    have h := rowS_pas n k
    have e1 : rowS (n + 1) (k + 1 + 1) = rowS (n + 1) (k + 1) + C (n + 1) (k + 1) := rfl
    have e2 : rowS n (k + 1 + 1) = rowS n (k + 1) + C n (k + 1) := rfl
    have e3 : rowS n (k + 1) = rowS n k + C n k := rfl
    rw [e1, h, C_step, e2]
    omega
theorem rowS_more (n : Nat) : ∀ d, rowS n (n + 1 + d) = rowS n (n + 1)
  | 0 => rfl
  | d + 1 => by
    show rowS n (n + 1 + d) + C n (n + 1 + d) = _
    rw [C_big (by omega), rowS_more n d, Nat.add_zero]
theorem rowS_all : ∀ n, rowS n (n + 1) = 2 ^ n
  | 0 => rfl
  | n + 1 => by
    rw [rowS_pas, rowS_all n, Nat.pow_succ]
    have := rowS_more n 1
    rw [this, rowS_all n]
    omega
theorem rowS_mono (n : Nat) : ∀ {a b : Nat}, a ≤ b → rowS n a ≤ rowS n b := by
  intro a b h
  obtain ⟨d, rfl⟩ := Nat.exists_eq_add_of_le h
  induction d with
  | zero => exact Nat.le_refl _
  | succ d ih =>
    have := ih (by omega)
    show _ ≤ rowS n (a + d) + C n (a + d)
    omega
/-- from the other end -/
def rowF (n : Nat) : Nat → Nat
  | 0 => 0
  | k + 1 => rowF n k + C n (n - k)
theorem rowF_eq (n : Nat) : ∀ {k : Nat}, k ≤ n + 1 → rowF n k = rowS n k
  | 0, _ => rfl
  | k + 1, h => by
    show rowF n k + C n (n - k) = rowS n k + C n k
    rw [rowF_eq n (by omega), C_sym' (by omega)]
end Fw
end
section
/-! Texts of signs: unrank, rank, by the number of ones. A text is a list of Bools. -/
namespace Fw
abbrev Bits := List Bool
def ones : Bits → Nat
  | [] => 0
  | b :: t => (if b then 1 else 0) + ones t
theorem ones_le : ∀ l : Bits, ones l ≤ l.length
  | [] => Nat.le_refl _
  | b :: t => by
    have := ones_le t
    show (if b then 1 else 0) + ones t ≤ t.length + 1
    split <;> omega
theorem ones_append : ∀ l m : Bits, ones (l ++ m) = ones l + ones m
  | [], m => by show ones m = 0 + ones m; omega
  | b :: t, m => by
    show (if b then 1 else 0) + ones (t ++ m) = (if b then 1 else 0) + ones t + ones m
    rw [ones_append t m]; omega
/-- the text with index i among the ascending ones of n signs with r ones -/
def unrank : Nat → Nat → Nat → Bits
  | 0, _, _ => []
  | n + 1, r, i => if i < C n r then false :: unrank n r i else true :: unrank n (r - 1) (i - C n r)
def rank : Bits → Nat
  | [] => 0
  | false :: t => rank t
  | true :: t => C t.length (ones t + 1) + rank t
theorem unrank_len : ∀ n r i, (unrank n r i).length = n
  | 0, _, _ => rfl
  | n + 1, r, i => by
    unfold unrank
    split
    · rw [List.length_cons, unrank_len]
    · rw [List.length_cons, unrank_len]
theorem unrank_ones : ∀ n r i, i < C n r → ones (unrank n r i) = r
  | 0, 0, _, _ => rfl
  | 0, r + 1, i, h => by rw [C_big (by omega)] at h; omega
  | n + 1, r, i, h => by
    unfold unrank
    split
    · rename_i hi
      show 0 + ones (unrank n r i) = r
      rw [unrank_ones n r i hi]; omega
    · rename_i hi
      cases r with
      | zero => rw [C_zero] at h hi; omega
      | succ k =>
        rw [C_step] at h
        show 1 + ones (unrank n (k + 1 - 1) (i - C n (k + 1))) = k + 1
        rw [Nat.add_sub_cancel, unrank_ones n k _ (by omega)]; omega
theorem rank_unrank : ∀ n r i, i < C n r → rank (unrank n r i) = i
  | 0, 0, i, h => by rw [C_zero] at h; show 0 = i; omega
  | 0, r + 1, i, h => by rw [C_big (by omega)] at h; omega
  | n + 1, r, i, h => by
    unfold unrank
    split
    · rename_i hi
      show rank (unrank n r i) = i
      exact rank_unrank n r i hi
    · rename_i hi
      cases r with
      | zero => rw [C_zero] at h hi; omega
      | succ k =>
        rw [C_step] at h
        have hlt : i - C n (k + 1) < C n k := by omega
        show C (unrank n (k + 1 - 1) (i - C n (k + 1))).length (ones (unrank n (k + 1 - 1) (i - C n (k + 1))) + 1) + rank (unrank n (k + 1 - 1) (i - C n (k + 1))) = i
        rw [Nat.add_sub_cancel, unrank_len, unrank_ones n k _ hlt, rank_unrank n k _ hlt]
        omega
/-- by the number of ones, rising: step s, ones s; falling: ones n - s -/
def stepOnes (n : Nat) (rising : Bool) (s : Nat) : Nat := if rising then s else n - s
def rowB (n : Nat) (rising : Bool) (k : Nat) : Nat := if rising then rowS n k else rowF n k
theorem rowB_succ (n : Nat) (rising : Bool) (k : Nat) : rowB n rising (k + 1) = rowB n rising k + C n (stepOnes n rising k) := by
  cases rising <;> rfl
theorem rowB_zero (n : Nat) (rising : Bool) : rowB n rising 0 = 0 := by cases rising <;> rfl
theorem rowB_all (n : Nat) (rising : Bool) : rowB n rising (n + 1) = 2 ^ n := by
  cases rising with
  | true => exact rowS_all n
  | false => show rowF n (n + 1) = _; rw [rowF_eq n (Nat.le_refl _), rowS_all]
/-- from step s on, what is left of the index being i -/
def byOnes (n : Nat) (rising : Bool) : Nat → Nat → Nat → Bits
  | 0, _, _ => []
  | f + 1, s, i => if i < C n (stepOnes n rising s) then unrank n (stepOnes n rising s) i else byOnes n rising f (s + 1) (i - C n (stepOnes n rising s))
def textBy (n : Nat) (i : Nat) (rising : Bool) : Bits := byOnes n rising (n + 1) 0 i
/-- what the steps ahead of a text's number of ones hold -/
def aheadOf (n : Nat) (rising : Bool) (r : Nat) : Nat := rowB n rising (if rising then r else n - r)
def indexBy (l : Bits) (rising : Bool) : Nat := aheadOf l.length rising (ones l) + rank l
theorem byOnes_spec (n : Nat) (rising : Bool) : ∀ f s i, s + f = n + 1 → rowB n rising s + i < 2 ^ n →
    ∃ t j, s ≤ t ∧ t ≤ n ∧ j < C n (stepOnes n rising t) ∧ byOnes n rising f s i = unrank n (stepOnes n rising t) j ∧ rowB n rising s + i = rowB n rising t + j
  | 0, s, i, h, hi => by
    have e : s = n + 1 := by omega
    subst e
    rw [rowB_all] at hi
    omega
  | f + 1, s, i, h, hi => by
    unfold byOnes
    split
    · rename_i hc
      exact ⟨s, i, Nat.le_refl _, by omega, hc, rfl, rfl⟩
    · rename_i hc
      have h2 := byOnes_spec n rising f (s + 1) (i - C n (stepOnes n rising s)) (by omega) (by rw [rowB_succ]; omega)
      obtain ⟨t, j, h3, h4, h5, h6, h7⟩ := h2
      refine ⟨t, j, by omega, h4, h5, h6, ?_⟩
      rw [← h7, rowB_succ]
      omega
theorem stepOnes_le {n s : Nat} (rising : Bool) (h : s ≤ n) : stepOnes n rising s ≤ n := by
  cases rising
  · show n - s ≤ n; omega
  · exact h
/-- the text with index i: its length, its ones by the step, its index -/
theorem textBy_spec {n i : Nat} (rising : Bool) (h : i < 2 ^ n) : ∃ t j, t ≤ n ∧ j < C n (stepOnes n rising t) ∧ textBy n i rising = unrank n (stepOnes n rising t) j ∧ i = rowB n rising t + j := by
  obtain ⟨t, j, _, h2, h3, h4, h5⟩ := byOnes_spec n rising (n + 1) 0 i (by omega) (by rw [rowB_zero]; omega)
  rw [rowB_zero, Nat.zero_add] at h5
  exact ⟨t, j, h2, h3, h4, h5⟩
theorem textBy_len {n i : Nat} (rising : Bool) (h : i < 2 ^ n) : (textBy n i rising).length = n := by
  obtain ⟨t, j, _, _, e, _⟩ := textBy_spec rising h
  rw [e, unrank_len]
theorem indexBy_textBy {n i : Nat} (rising : Bool) (h : i < 2 ^ n) : indexBy (textBy n i rising) rising = i := by
  obtain ⟨t, j, h1, h2, e, h3⟩ := textBy_spec rising h
  unfold indexBy aheadOf
  rw [e, unrank_len, unrank_ones _ _ _ h2, rank_unrank _ _ _ h2, h3]
  cases rising with
  | true => rfl
  | false =>
    have : n - stepOnes n false t = t := by show n - (n - t) = t; omega
    show rowB n false (n - stepOnes n false t) + j = _
    rw [this]
theorem rowB_mono {n : Nat} (rising : Bool) {a b : Nat} (h : a ≤ b) : rowB n rising a ≤ rowB n rising b := by
  obtain ⟨d, rfl⟩ := Nat.exists_eq_add_of_le h
  induction d with
  | zero => exact Nat.le_refl _
  | succ d ih =>
    have := ih (by omega)
    have e := rowB_succ n rising (a + d)
    show _ ≤ rowB n rising (a + d + 1)
    omega
/-- earlier texts have no later step -/
theorem textBy_order {n i j : Nat} (rising : Bool) (hij : i < j) (hj : j < 2 ^ n) :
    if rising then ones (textBy n i rising) ≤ ones (textBy n j rising) else ones (textBy n j rising) ≤ ones (textBy n i rising) := by
  obtain ⟨t, x, h1, h2, e, h3⟩ := textBy_spec rising (show i < 2 ^ n by omega)
  obtain ⟨u, y, k1, k2, e', k3⟩ := textBy_spec rising hj
  have hs : t ≤ u := by
    apply Decidable.byContradiction
    intro hc
    have m := rowB_mono (n := n) rising (show u + 1 ≤ t by omega)
    rw [rowB_succ] at m
    omega
  rw [e, e', unrank_ones _ _ _ h2, unrank_ones _ _ _ k2]
  cases rising with
  | true => exact hs
  | false => show n - u ≤ n - t; omega
/-! ### two texts, sign by sign -/
/-- some place has these two signs -/
def Shows (l m : Bits) (a b : Bool) : Prop := (a, b) ∈ l.zip m
theorem Shows.cons {l m : Bits} {a b x y : Bool} (h : Shows l m a b) : Shows (x :: l) (y :: m) a b := List.mem_cons_of_mem _ h
theorem Shows.head {l m : Bits} {a b : Bool} : Shows (a :: l) (b :: m) a b := List.mem_cons_self
theorem Shows.swap : ∀ {l m : Bits} {a b : Bool}, Shows l m a b → Shows m l b a
  | [], _, _, _, h => by cases h
  | _ :: _, [], _, _, h => by cases h
  | x :: l, y :: m, a, b, h => by
    rcases List.mem_cons.mp (show (a, b) ∈ (x, y) :: l.zip m from h) with e | e
    · cases e; exact Shows.head
    · exact Shows.cons (Shows.swap e)
theorem Shows.app {l m l' m' : Bits} {a b : Bool} (e : l.length = m.length) (h : Shows l' m' a b) : Shows (l ++ l') (m ++ m') a b := by
  unfold Shows
  rw [List.zip_append e]
  exact List.mem_append_right _ h
theorem Shows.left {l m l' m' : Bits} {a b : Bool} (e : l.length = m.length) (h : Shows l m a b) : Shows (l ++ l') (m ++ m') a b := by
  unfold Shows
  rw [List.zip_append e]
  exact List.mem_append_left _ h
/-- fewer ones: some place 0 and 1; as many: the same, or equal -/
theorem shows01_lt : ∀ {l m : Bits}, l.length = m.length → ones l < ones m → Shows l m false true
  | [], [], _, h => absurd h (Nat.lt_irrefl _)
  | x :: l, y :: m, e, h => by
    have e' : l.length = m.length := by simpa using e
    cases x <;> cases y
    · exact Shows.cons (shows01_lt e' (by have : 0 + ones l < 0 + ones m := h; omega))
    · exact Shows.head
    · exact Shows.cons (shows01_lt e' (by have : 1 + ones l < 0 + ones m := h; omega))
    · exact Shows.cons (shows01_lt e' (by have : 1 + ones l < 1 + ones m := h; omega))
theorem shows01_le : ∀ {l m : Bits}, l.length = m.length → ones l ≤ ones m → l ≠ m → Shows l m false true
  | [], [], _, _, n => absurd rfl n
  | x :: l, y :: m, e, h, n => by
    have e' : l.length = m.length := by simpa using e
    cases x <;> cases y
    · exact Shows.cons (shows01_le e' (by have : 0 + ones l ≤ 0 + ones m := h; omega) (fun z => n (by rw [z])))
    · exact Shows.head
    · exact Shows.cons (shows01_lt e' (by have : 1 + ones l ≤ 0 + ones m := h; omega))
    · exact Shows.cons (shows01_le e' (by have : 1 + ones l ≤ 1 + ones m := h; omega) (fun z => n (by rw [z])))
/-- together more ones than signs: some place 1 and 1 -/
theorem shows11 : ∀ {l m : Bits}, l.length = m.length → l.length < ones l + ones m → Shows l m true true
  | [], [], _, h => absurd h (Nat.lt_irrefl _)
  | x :: l, y :: m, e, h => by
    have e' : l.length = m.length := by simpa using e
    cases x <;> cases y
    · exact Shows.cons (shows11 e' (by have : l.length + 1 < (0 + ones l) + (0 + ones m) := h; omega))
    · exact Shows.cons (shows11 e' (by have : l.length + 1 < (0 + ones l) + (1 + ones m) := h; omega))
    · exact Shows.cons (shows11 e' (by have : l.length + 1 < (1 + ones l) + (0 + ones m) := h; omega))
    · exact Shows.head
/-- together fewer ones than signs: some place 0 and 0 -/
theorem shows00 : ∀ {l m : Bits}, l.length = m.length → ones l + ones m < l.length → Shows l m false false
  | [], [], _, h => absurd h (Nat.not_lt_zero _)
  | x :: l, y :: m, e, h => by
    have e' : l.length = m.length := by simpa using e
    have a := ones_le l
    have b := ones_le m
    cases x <;> cases y
    · exact Shows.head
    · exact Shows.cons (shows00 e' (by have : (0 + ones l) + (1 + ones m) < l.length + 1 := h; omega))
    · exact Shows.cons (shows00 e' (by have : (1 + ones l) + (0 + ones m) < l.length + 1 := h; omega))
    · exact Shows.cons (shows00 e' (by have : (1 + ones l) + (1 + ones m) < l.length + 1 := h; omega))
theorem unrank_inj {n r i j : Nat} (hi : i < C n r) (hj : j < C n r) (h : unrank n r i = unrank n r j) : i = j := by
  have := congrArg rank h
  rwa [rank_unrank _ _ _ hi, rank_unrank _ _ _ hj] at this
end Fw
end
section
/-! Demands, the most switches, the fewest trials, the columns of the best plans. -/
namespace Fw
/-- a demand: whether 00, 01, 10, 11 are in it -/
structure Dm where
  a : Bool
  b : Bool
  c : Bool
  d : Bool
  deriving DecidableEq
def b2n (b : Bool) : Nat := if b then 1 else 0
def Dm.apart (x : Dm) : Nat := b2n x.b + b2n x.c
def Dm.same (x : Dm) : Nat := b2n x.a + b2n x.d
theorem Dm.apart_le (x : Dm) : x.apart ≤ 2 := by obtain ⟨a, b, c, d⟩ := x; show b2n b + b2n c ≤ 2; cases b <;> cases c <;> decide
theorem Dm.same_le (x : Dm) : x.same ≤ 2 := by obtain ⟨a, b, c, d⟩ := x; show b2n a + b2n d ≤ 2; cases a <;> cases d <;> decide
/-- the most switches for N trials; none: any number -/
def most (x : Dm) (N : Nat) : Option Nat :=
  if x.apart = 0 then (if x.same ≤ N then none else some 1)
  else if x.apart = 1 then some (2 ^ (N - x.same))
  else if x.same = 2 then some (max 1 (C (N - 1) (N / 2 - 1)))
  else some (max 1 (C N (N / 2 + x.same)))
/-- so many trials are too few for K switches -/
def few (x : Dm) (K N : Nat) : Bool := match most x N with
  | none => false
  | some m => decide (m < K)
def stepF (x : Dm) (K : Nat) (t s : Nat) : Nat := if few x K (t + s - 1) then t + s else t
def fewest (x : Dm) (K : Nat) : Nat := [128, 64, 32, 16, 8, 4, 2, 1].foldl (stepF x K) 0
/-! ### growing -/
theorem C_half_up (N s : Nat) : C N (N / 2 + s) ≤ C (N + 1) ((N + 1) / 2 + s) := by
  have h : (N + 1) / 2 = N / 2 ∨ (N + 1) / 2 = N / 2 + 1 := by omega
  rcases h with h | h
  · rw [h]; exact C_le_up _ _
  · rw [h, Nat.add_right_comm]; exact C_le_diag _ _
theorem C_all_up (N : Nat) : C (N - 1) (N / 2 - 1) ≤ C (N + 1 - 1) ((N + 1) / 2 - 1) := by
  by_cases h2 : N < 2
  · have h : N = 0 ∨ N = 1 := by omega
    rcases h with rfl | rfl
    · decide
    · decide
  · have h : (N + 1) / 2 - 1 = N / 2 - 1 ∨ (N + 1) / 2 - 1 = N / 2 - 1 + 1 := by omega
    have e : N + 1 - 1 = N - 1 + 1 := by omega
    rw [e]
    rcases h with h | h
    · rw [h]; exact C_le_up _ _
    · rw [h]; exact C_le_diag _ _
theorem few_down {x : Dm} {K N : Nat} (h : few x K (N + 1) = true) : few x K N = true := by
  unfold few most at *
  by_cases h0 : x.apart = 0
  · simp only [h0, if_true] at h ⊢
    by_cases h1 : x.same ≤ N
    · rw [if_pos (show x.same ≤ N + 1 by omega)] at h; cases h
    · rw [if_neg h1]
      by_cases h2 : x.same ≤ N + 1
      · rw [if_pos h2] at h; cases h
      · rw [if_neg h2] at h; exact h
  · simp only [h0, if_false] at h ⊢
    by_cases h1 : x.apart = 1
    · simp only [h1, if_true, decide_eq_true_eq] at h ⊢
      have : (2 : Nat) ^ (N - x.same) ≤ 2 ^ (N + 1 - x.same) := Nat.pow_le_pow_right (by decide) (by omega)
      omega
    · simp only [h1, if_false] at h ⊢
      by_cases h2 : x.same = 2
      · simp only [h2, if_true, decide_eq_true_eq] at h ⊢
        have := C_all_up N
        omega
      · simp only [h2, if_false, decide_eq_true_eq] at h ⊢
        have := C_half_up N x.same
        omega
theorem few_mono {x : Dm} {K : Nat} {m n : Nat} (hmn : m ≤ n) (h : few x K n = true) : few x K m = true := by
  obtain ⟨k, rfl⟩ := Nat.exists_eq_add_of_le hmn
  induction k with
  | zero => exact h
  | succ k ih => exact ih (by omega) (few_down h)
/-! ### the search: all below t are too few; from t + g on none is -/
structure Sr (x : Dm) (K t g : Nat) : Prop where
  lo : ∀ n, n < t → few x K n = true
  hi : few x K (t + g) = false
theorem sr_step {x : Dm} {K t s g : Nat} (hs : 0 < s) (hg : g + 1 = 2 * s) (h : Sr x K t g) : Sr x K (stepF x K t s) (s - 1) := by
  unfold stepF
  by_cases e : few x K (t + s - 1) = true
  · rw [if_pos e]
    refine ⟨fun n hn => few_mono (show n ≤ t + s - 1 by omega) e, ?_⟩
    have := h.hi
    rwa [show t + g = t + s + (s - 1) by omega] at this
  · rw [if_neg e]
    refine ⟨h.lo, ?_⟩
    rw [show t + (s - 1) = t + s - 1 by omega]
    cases q : few x K (t + s - 1) with
    | true => exact absurd q e
    | false => rfl
def limit : Nat := 10 ^ 40
theorem big_one : limit ≤ 2 ^ (255 - 2) := by decide
theorem big_all : limit ≤ C (255 - 1) (255 / 2 - 1) := by rw [← Cm_eq]; decide +kernel
theorem big_two0 : limit ≤ C 255 (255 / 2 + 0) := by rw [← Cm_eq]; decide +kernel
theorem big_two1 : limit ≤ C 255 (255 / 2 + 1) := by rw [← Cm_eq]; decide +kernel
theorem few_255 (x : Dm) {K : Nat} (hK : K ≤ limit) : few x K 255 = false := by
  unfold few most
  by_cases h0 : x.apart = 0
  · simp only [h0, if_true]
    rw [if_pos (show x.same ≤ 255 by have := x.same_le; omega)]
  · simp only [h0, if_false]
    by_cases h1 : x.apart = 1
    · simp only [h1, if_true, decide_eq_false_iff_not]
      have := big_one
      have h3 : (2 : Nat) ^ (255 - 2) ≤ 2 ^ (255 - x.same) := Nat.pow_le_pow_right (by decide) (by have := x.same_le; omega)
      omega
    · simp only [h1, if_false]
      by_cases h2 : x.same = 2
      · simp only [h2, if_true, decide_eq_false_iff_not]
        have := big_all
        omega
      · simp only [h2, if_false, decide_eq_false_iff_not]
        have hs : x.same = 0 ∨ x.same = 1 := by have := x.same_le; omega
        rcases hs with e | e
        · rw [e]; have := big_two0; omega
        · rw [e]; have := big_two1; omega
theorem fewest_sr (x : Dm) {K : Nat} (hK : K ≤ limit) : Sr x K (fewest x K) 0 := by
  have h0 : Sr x K 0 255 := ⟨fun n hn => absurd hn (Nat.not_lt_zero n), by rw [Nat.zero_add]; exact few_255 x hK⟩
  have h1 := sr_step (s := 128) (by decide) (by decide) h0
  have h2 := sr_step (s := 64) (by decide) (by decide) h1
  have h3 := sr_step (s := 32) (by decide) (by decide) h2
  have h4 := sr_step (s := 16) (by decide) (by decide) h3
  have h5 := sr_step (s := 8) (by decide) (by decide) h4
  have h6 := sr_step (s := 4) (by decide) (by decide) h5
  have h7 := sr_step (s := 2) (by decide) (by decide) h6
  exact sr_step (s := 1) (by decide) (by decide) h7
theorem fewest_enough (x : Dm) {K : Nat} (hK : K ≤ limit) : few x K (fewest x K) = false := (fewest_sr x hK).hi
theorem fewest_least (x : Dm) {K n : Nat} (hK : K ≤ limit) (h : few x K n = false) : fewest x K ≤ n := by
  apply Decidable.byContradiction
  intro hc
  have := (fewest_sr x hK).lo n (by omega)
  rw [h] at this
  cases this
theorem fewest_le (x : Dm) {K : Nat} (hK : K ≤ limit) : fewest x K ≤ 255 := fewest_least x hK (few_255 x hK)
theorem fewest_one (x : Dm) : fewest x 1 = 0 := by
  have h : few x 1 0 = false := by
    unfold few most
    by_cases h0 : x.apart = 0
    · simp only [h0, if_true]
      by_cases h1 : x.same ≤ 0
      · rw [if_pos h1]
      · rw [if_neg h1]; rfl
    · simp only [h0, if_false]
      by_cases h1 : x.apart = 1
      · simp only [h1, if_true, decide_eq_false_iff_not]
        have := Nat.pow_pos (n := 0 - x.same) (show 0 < 2 by decide)
        omega
      · simp only [h1, if_false]
        by_cases h2 : x.same = 2
        · simp only [h2, if_true, decide_eq_false_iff_not]; omega
        · simp only [h2, if_false, decide_eq_false_iff_not]; omega
  have := fewest_least x (K := 1) (by decide) h
  omega
/-! ### what the fewest trials tell, by the kind of the demand -/
section
variable {x : Dm} {K : Nat}
theorem fewest_free (hK : K ≤ limit) (h2 : 2 ≤ K) (h0 : x.apart = 0) : fewest x K = x.same := by
  have h := fewest_enough x hK
  have l : fewest x K ≤ x.same := fewest_least x hK (by unfold few most; simp only [h0, if_true]; rw [if_pos (Nat.le_refl _)])
  unfold few most at h
  simp only [h0, if_true] at h
  by_cases g : x.same ≤ fewest x K
  · omega
  · rw [if_neg g] at h
    simp only [decide_eq_false_iff_not] at h
    omega
theorem fewest_one_way (hK : K ≤ limit) (h1 : x.apart = 1) : K ≤ 2 ^ (fewest x K - x.same) := by
  have h := fewest_enough x hK
  unfold few most at h
  simp only [h1, if_true] at h
  rw [if_neg (by decide)] at h
  simp only [decide_eq_false_iff_not] at h
  omega
theorem fewest_all (hK : K ≤ limit) (h2 : 2 ≤ K) (ha : x.apart = 2) (hs : x.same = 2) : K ≤ C (fewest x K - 1) (fewest x K / 2 - 1) := by
  have h := fewest_enough x hK
  unfold few most at h
  rw [ha, hs] at h
  simp only [if_true] at h
  rw [if_neg (by decide), if_neg (by decide)] at h
  simp only [decide_eq_false_iff_not] at h
  omega
theorem fewest_two (hK : K ≤ limit) (h2 : 2 ≤ K) (ha : x.apart = 2) (hs : x.same ≠ 2) : K ≤ C (fewest x K) (fewest x K / 2 + x.same) := by
  have h := fewest_enough x hK
  unfold few most at h
  rw [ha] at h
  rw [if_neg (by decide), if_neg (by decide), if_neg hs] at h
  simp only [decide_eq_false_iff_not] at h
  omega
end
/-! ### columns -/
def Dm.head (x : Dm) : Bits := (if x.d then [true] else []) ++ (if x.a then [false] else [])
theorem Dm.head_len (x : Dm) : x.head.length = x.same := by obtain ⟨a, b, c, d⟩ := x; cases a <;> cases d <;> rfl
def onesN (x : Dm) (N : Nat) : Nat := if x.d then N / 2 + 1 else if x.a then N - N / 2 - 1 else N / 2
def col (x : Dm) (N i : Nat) : Bits :=
  if x.apart = 0 then x.head
  else if x.apart = 1 then x.head ++ textBy (N - x.same) i x.b
  else if x.same = 2 then true :: unrank (N - 1) (N / 2 - 1) i
  else unrank N (onesN x N) i
theorem col_free {x : Dm} {N i : Nat} (h : x.apart = 0) : col x N i = x.head := if_pos h
theorem col_one {x : Dm} {N i : Nat} (h : x.apart = 1) : col x N i = x.head ++ textBy (N - x.same) i x.b := by
  unfold col; rw [if_neg (by rw [h]; decide), if_pos h]
theorem col_all {x : Dm} {N i : Nat} (h : x.apart = 2) (hs : x.same = 2) : col x N i = true :: unrank (N - 1) (N / 2 - 1) i := by
  unfold col; rw [if_neg (by rw [h]; decide), if_neg (by rw [h]; decide), if_pos hs]
theorem col_mid {x : Dm} {N i : Nat} (h : x.apart = 2) (hs : x.same ≠ 2) : col x N i = unrank N (onesN x N) i := by
  unfold col; rw [if_neg (by rw [h]; decide), if_neg (by rw [h]; decide), if_neg hs]
theorem C_onesN {x : Dm} {N : Nat} (hs : x.same ≠ 2) (h : 2 ≤ C N (N / 2 + x.same)) : C N (onesN x N) = C N (N / 2 + x.same) := by
  obtain ⟨a, b, c, d⟩ := x
  cases a <;> cases d
  · rfl
  · rfl
  · have hle : N / 2 + 1 ≤ N := by
      apply Decidable.byContradiction
      intro hc
      have e : C N (N / 2 + 1) = 0 := C_big (by omega)
      have h' : 2 ≤ C N (N / 2 + 1) := h
      omega
    show C N (N - N / 2 - 1) = C N (N / 2 + 1)
    have := C_sym' hle
    rw [← this]
    congr 1
  · exact absurd rfl hs
section
variable {x : Dm} {K i : Nat}
theorem col_len (hK : K ≤ limit) (h2 : 2 ≤ K) (hi : i < K) : (col x (fewest x K) i).length = fewest x K := by
  unfold col
  by_cases h0 : x.apart = 0
  · rw [if_pos h0, Dm.head_len, fewest_free hK h2 h0]
  · rw [if_neg h0]
    by_cases h1 : x.apart = 1
    · have hb := fewest_one_way hK h1
      rw [if_pos h1, List.length_append, Dm.head_len, textBy_len _ (by omega)]
      have : x.same ≤ fewest x K := by
        apply Decidable.byContradiction
        intro hc
        rw [show fewest x K - x.same = 0 by omega] at hb
        omega
      omega
    · rw [if_neg h1]
      have ha : x.apart = 2 := by have := x.apart_le; omega
      by_cases hs : x.same = 2
      · have hb := fewest_all hK h2 ha hs
        rw [if_pos hs, List.length_cons, unrank_len]
        have : fewest x K ≠ 0 := by
          intro e
          rw [e] at hb
          have : C (0 - 1) (0 / 2 - 1) = 1 := rfl
          omega
        omega
      · rw [if_neg hs, unrank_len]
/-- the earlier column of two differs from the later, where the demand is not free -/
theorem col_shows01 {j : Nat} (hK : K ≤ limit) (h1 : x.apart = 1) (hij : i < j) (hj : j < K) : Shows (col x (fewest x K) i) (col x (fewest x K) j) (!x.b) x.b := by
  have hb := fewest_one_way hK h1
  rw [col_one h1, col_one h1]
  have li := textBy_len (n := fewest x K - x.same) x.b (show i < 2 ^ (fewest x K - x.same) by omega)
  have lj := textBy_len (n := fewest x K - x.same) x.b (show j < 2 ^ (fewest x K - x.same) by omega)
  have ne : textBy (fewest x K - x.same) i x.b ≠ textBy (fewest x K - x.same) j x.b := by
    intro e
    have := congrArg (fun l => indexBy l x.b) e
    have this : indexBy (textBy (fewest x K - x.same) i x.b) x.b = indexBy (textBy (fewest x K - x.same) j x.b) x.b := this
    rw [indexBy_textBy _ (by omega), indexBy_textBy _ (by omega)] at this
    omega
  have ord := textBy_order (n := fewest x K - x.same) x.b hij (by omega)
  refine Shows.app rfl ?_
  cases hx : x.b with
  | true =>
    rw [hx] at ord li lj ne
    exact shows01_le (li.trans lj.symm) ord ne
  | false =>
    rw [hx] at ord li lj ne
    exact (shows01_le (lj.trans li.symm) ord (Ne.symm ne)).swap
theorem col_head {j : Nat} (h1 : x.apart ≤ 1) (N : Nat) (a : Bool) (h : (a = true → x.d = true) ∧ (a = false → x.a = true)) : Shows (col x N i) (col x N j) a a := by
  have key : Shows x.head x.head a a := by
    unfold Dm.head
    cases a with
    | true =>
      rw [if_pos (h.1 rfl)]
      exact Shows.left rfl Shows.head
    | false =>
      rw [if_pos (h.2 rfl)]
      exact Shows.app rfl Shows.head
  unfold col
  by_cases h0 : x.apart = 0
  · rw [if_pos h0, if_pos h0]; exact key
  · have e1 : x.apart = 1 := by omega
    rw [if_neg h0, if_neg h0, if_pos e1, if_pos e1]
    exact Shows.left rfl key
/-- with both ways apart: as many ones, different -/
theorem col_two {j : Nat} (hK : K ≤ limit) (ha : x.apart = 2) (hi : i < K) (hj : j < K) (hij : i ≠ j) (a b : Bool) (h : (a = b → a = true → x.d = true) ∧ (a = b → a = false → x.a = true)) : Shows (col x (fewest x K) i) (col x (fewest x K) j) a b := by
  have h2 : 2 ≤ K := by omega
  by_cases hs : x.same = 2
  · have hb := fewest_all hK h2 ha hs
    rw [col_all ha hs, col_all ha hs]
    generalize fewest x K = N at hb
    have oi := unrank_ones (N - 1) (N / 2 - 1) i (by omega)
    have oj := unrank_ones (N - 1) (N / 2 - 1) j (by omega)
    have len : (unrank (N - 1) (N / 2 - 1) i).length = (unrank (N - 1) (N / 2 - 1) j).length := by rw [unrank_len, unrank_len]
    have ne : unrank (N - 1) (N / 2 - 1) i ≠ unrank (N - 1) (N / 2 - 1) j := fun e => hij (unrank_inj (by omega) (by omega) e)
    have hN : 2 ≤ N := by
      apply Decidable.byContradiction
      intro hc
      have : N = 0 ∨ N = 1 := by omega
      rcases this with e | e
      · rw [e] at hb
        have : C (0 - 1) (0 / 2 - 1) = 1 := rfl
        omega
      · rw [e] at hb
        have : C (1 - 1) (1 / 2 - 1) = 1 := rfl
        omega
    cases a <;> cases b
    · refine Shows.cons (shows00 len ?_)
      rw [oi, oj, unrank_len]
      omega
    · exact Shows.cons (shows01_le len (by rw [oi, oj]; exact Nat.le_refl _) ne)
    · exact Shows.cons (shows01_le len.symm (by rw [oi, oj]; exact Nat.le_refl _) ne.symm).swap
    · exact Shows.head
  · have hb := fewest_two hK h2 ha hs
    rw [col_mid ha hs, col_mid ha hs]
    generalize fewest x K = N at hb
    have hc := C_onesN hs (show 2 ≤ C N (N / 2 + x.same) by omega)
    have oi := unrank_ones N (onesN x N) i (by omega)
    have oj := unrank_ones N (onesN x N) j (by omega)
    have len : (unrank N (onesN x N) i).length = (unrank N (onesN x N) j).length := by rw [unrank_len, unrank_len]
    have ne : unrank N (onesN x N) i ≠ unrank N (onesN x N) j := fun e => hij (unrank_inj (by omega) (by omega) e)
    cases a <;> cases b
    · have e : x.a = true := h.2 rfl rfl
      have e2 : x.d = false := by
        cases q : x.d with
        | false => rfl
        | true =>
          exfalso
          apply hs
          unfold Dm.same
          rw [e, q]; rfl
      have hle : N / 2 + 1 ≤ N := by
        apply Decidable.byContradiction
        intro hc
        have e1 : x.same = 1 := by unfold Dm.same; rw [e, e2]; rfl
        rw [e1] at hb
        have : C N (N / 2 + 1) = 0 := C_big (by omega)
        omega
      refine shows00 len ?_
      rw [oi, oj, unrank_len]
      unfold onesN
      rw [e, e2, if_neg (by decide), if_pos rfl]
      omega
    · exact shows01_le len (by rw [oi, oj]; exact Nat.le_refl _) ne
    · exact (shows01_le len.symm (by rw [oi, oj]; exact Nat.le_refl _) ne.symm).swap
    · have e : x.d = true := h.1 rfl rfl
      refine shows11 len ?_
      rw [oi, oj, unrank_len]
      unfold onesN
      rw [e, if_pos rfl]
      omega
/-- the ways of a demand, as two signs -/
def Dm.has (x : Dm) (a b : Bool) : Bool := if a then (if b then x.d else x.c) else (if b then x.b else x.a)
/-- TWO COLUMNS show every way of the demand, the earlier first -/
theorem col_shows {j : Nat} (hK : K ≤ limit) (hij : i < j) (hj : j < K) (a b : Bool) (h : x.has a b = true) : Shows (col x (fewest x K) i) (col x (fewest x K) j) a b := by
  by_cases h2 : x.apart = 2
  · refine col_two hK h2 (by omega) hj (by omega) a b ⟨fun e1 e2 => ?_, fun e1 e2 => ?_⟩
    · subst e1 e2; exact h
    · subst e1 e2; exact h
  · have h1 : x.apart ≤ 1 := by have := x.apart_le; omega
    by_cases e : a = b
    · subst e
      refine col_head h1 _ a ⟨fun e => ?_, fun e => ?_⟩
      · subst e; exact h
      · subst e; exact h
    · have hb : x.apart = 1 ∧ a = !x.b ∧ b = x.b := by
        obtain ⟨xa, xb, xc, xd⟩ := x
        unfold Dm.apart at *
        cases a <;> cases b <;> cases xb <;> cases xc <;> simp_all [Dm.has, b2n]
      obtain ⟨e1, e2, e3⟩ := hb
      rw [e2, e3]
      exact col_shows01 hK e1 hij hj
end
end Fw
end
section
/-! No thirteen columns in nine trials beat the fewest trials: by a search over the columns as numbers. -/
namespace Fw
set_option maxRecDepth 100000
def rel (k a d : Bool) (full u v : Nat) : Bool :=
  (match k with
    | true => Nat.land u v != u && Nat.land u v != v
    | false => u != v) && (match d with
    | true => Nat.land u v != 0
    | false => true) && (match a with
    | true => Nat.lor u v != full
    | false => true)
/-- no clique among the candidates has more than m members (f: turns enough) -/
def okS (R : Nat → Nat → Bool) : Nat → Nat → List Nat → Bool
  | 0, _, _ => false
  | _ + 1, _, [] => true
  | _ + 1, 0, _ :: _ => false
  | f + 1, m + 1, u :: r => Nat.ble r.length m || (okS R f m (r.filter (R u)) && okS R f (m + 1) r)
theorem nodup_le : ∀ {l c : List Nat}, l.Nodup → (∀ u ∈ l, u ∈ c) → l.length ≤ c.length
  | [], _, _, _ => Nat.zero_le _
  | u :: l, c, hn, hs => by
    obtain ⟨h1, h2⟩ := List.nodup_cons.mp hn
    have h3 : l.length ≤ (c.erase u).length := nodup_le h2 fun v hv => by
      refine (List.mem_erase_of_ne ?_).mpr (hs v (List.mem_cons_of_mem _ hv))
      intro e
      subst e
      exact h1 hv
    rw [List.length_erase_of_mem (hs u List.mem_cons_self)] at h3
    have := List.length_pos_of_mem (hs u List.mem_cons_self)
    rw [List.length_cons]
    omega
theorem okS_sound {R : Nat → Nat → Bool} : ∀ (f m : Nat) (c l : List Nat), okS R f m c = true → l.Nodup → (∀ u ∈ l, u ∈ c) → (∀ u ∈ l, ∀ v ∈ l, u ≠ v → R u v = true) → l.length ≤ m
  | 0, _, _, _, h, _, _, _ => by cases h
  | f + 1, m, [], l, _, _, hs, _ => by
    cases l with
    | nil => exact Nat.zero_le _
    | cons u r => cases hs u List.mem_cons_self
  | f + 1, 0, u :: r, l, h, _, _, _ => by cases h
  | f + 1, m + 1, u :: r, l, h, hn, hs, hR => by
    rcases Bool.or_eq_true_iff.mp (show (Nat.ble r.length m || (okS R f m (r.filter (R u)) && okS R f (m + 1) r)) = true from h) with h1 | h1
    · have h2 := nodup_le hn hs
      have h3 := Nat.le_of_ble_eq_true h1
      rw [List.length_cons] at h2
      omega
    · obtain ⟨h2, h3⟩ := Bool.and_eq_true_iff.mp h1
      by_cases hu : u ∈ l
      · have h4 := okS_sound f m (r.filter (R u)) (l.erase u) h2 (hn.erase u) (fun v hv => by
          have hv' := (List.Nodup.mem_erase_iff hn).mp hv
          refine List.mem_filter.mpr ⟨?_, hR u hu v hv'.2 (Ne.symm hv'.1)⟩
          rcases List.mem_cons.mp (hs v hv'.2) with e | e
          · exact absurd e hv'.1
          · exact e) (fun v hv w hw hvw => hR v (List.mem_of_mem_erase hv) w (List.mem_of_mem_erase hw) hvw)
        rw [List.length_erase_of_mem hu] at h4
        omega
      · exact okS_sound f (m + 1) r l h3 hn (fun v hv => by
          rcases List.mem_cons.mp (hs v hv) with e | e
          · subst e; exact absurd hv hu
          · exact e) hR
/-! ### columns as numbers -/
def code : Bits → Nat
  | [] => 0
  | b :: t => 2 * code t + b2n b
theorem code_lt : ∀ l : Bits, code l < 2 ^ l.length
  | [] => by decide
  | b :: t => by
    have := code_lt t
    have h : b2n b ≤ 1 := by cases b <;> decide
    show 2 * code t + b2n b < 2 ^ (t.length + 1)
    rw [Nat.pow_succ]
    omega
theorem bit_zero (b : Bool) (n : Nat) : (2 * n + b2n b).testBit 0 = b := by
  rw [Nat.testBit_zero]
  cases b
  · show decide ((2 * n + 0) % 2 = 1) = false
    rw [decide_eq_false_iff_not]; omega
  · show decide ((2 * n + 1) % 2 = 1) = true
    rw [decide_eq_true_iff]; omega
theorem bit_succ (b : Bool) (n i : Nat) : (2 * n + b2n b).testBit (i + 1) = n.testBit i := by
  rw [Nat.testBit_succ]
  congr 1
  cases b
  · show (2 * n + 0) / 2 = n; omega
  · show (2 * n + 1) / 2 = n; omega
theorem shows_bit : ∀ {l m : Bits} {a b : Bool}, Shows l m a b → ∃ i, i < l.length ∧ (code l).testBit i = a ∧ (code m).testBit i = b
  | [], _, _, _, h => by cases h
  | _ :: _, [], _, _, h => by cases h
  | x :: l, y :: m, a, b, h => by
    rcases List.mem_cons.mp (show (a, b) ∈ (x, y) :: l.zip m from h) with e | e
    · cases e
      exact ⟨0, Nat.succ_pos _, bit_zero _ _, bit_zero _ _⟩
    · obtain ⟨i, h1, h2, h3⟩ := shows_bit (l := l) (m := m) e
      exact ⟨i + 1, Nat.succ_lt_succ h1, (bit_succ _ _ _).trans h2, (bit_succ _ _ _).trans h3⟩
theorem show11 {l m : Bits} (h : Shows l m true true) : Nat.land (code l) (code m) ≠ 0 := by
  obtain ⟨i, _, h1, h2⟩ := shows_bit h
  intro e
  have : (code l &&& code m).testBit i = true := by rw [Nat.testBit_and, h1, h2]; rfl
  rw [show code l &&& code m = 0 from e, Nat.zero_testBit] at this
  cases this
theorem show10 {l m : Bits} (h : Shows l m true false) : Nat.land (code l) (code m) ≠ code l := by
  obtain ⟨i, _, h1, h2⟩ := shows_bit h
  intro e
  have : (code l &&& code m).testBit i = false := by rw [Nat.testBit_and, h1, h2]; rfl
  rw [show code l &&& code m = code l from e, h1] at this
  cases this
theorem show01 {l m : Bits} (h : Shows l m false true) : Nat.land (code l) (code m) ≠ code m := by
  obtain ⟨i, _, h1, h2⟩ := shows_bit h
  intro e
  have : (code l &&& code m).testBit i = false := by rw [Nat.testBit_and, h1, h2]; rfl
  rw [show code l &&& code m = code m from e, h2] at this
  cases this
theorem show00 {l m : Bits} (h : Shows l m false false) : Nat.lor (code l) (code m) ≠ 2 ^ l.length - 1 := by
  obtain ⟨i, hi, h1, h2⟩ := shows_bit h
  intro e
  have : (code l ||| code m).testBit i = false := by rw [Nat.testBit_or, h1, h2]; rfl
  rw [show code l ||| code m = 2 ^ l.length - 1 from e, Nat.testBit_two_pow_sub_one, decide_eq_true hi] at this
  cases this
theorem show_ne {l m : Bits} {a b : Bool} (hab : a ≠ b) (h : Shows l m a b) : code l ≠ code m := by
  obtain ⟨i, _, h1, h2⟩ := shows_bit h
  intro e
  rw [e, h2] at h1
  exact hab h1.symm
/-! ### what two columns of a plan that keeps a demand are -/
/-- every way of the demand is shown -/
def Keeps (x : Dm) (l m : Bits) : Prop := ∀ a b, x.has a b = true → Shows l m a b
/-- with fewer trials than the demand asks: nothing is kept -/
theorem keeps_free {x : Dm} {l m : Bits} (e : l.length = m.length) (h : Keeps x l m) : x.same ≤ l.length := by
  obtain ⟨xa, xb, xc, xd⟩ := x
  have h0 : xa = true → 1 ≤ l.length := fun e1 => by
    obtain ⟨i, hi, _⟩ := shows_bit (h false false e1)
    omega
  have h1 : xd = true → 1 ≤ l.length := fun e1 => by
    obtain ⟨i, hi, _⟩ := shows_bit (h true true e1)
    omega
  cases xa with
  | false => cases xd with
    | false => exact Nat.zero_le _
    | true => exact h1 rfl
  | true => cases xd with
    | false => exact h0 rfl
    | true =>
      have a1 := h0 rfl
      show 2 ≤ l.length
      have s0 := shows_bit (h false false rfl)
      have s1 := shows_bit (h true true rfl)
      obtain ⟨i, hi, hi1, _⟩ := s0
      obtain ⟨j, hj, hj1, _⟩ := s1
      apply Decidable.byContradiction
      intro hc
      have ei : i = j := by omega
      rw [ei, hj1] at hi1
      cases hi1
theorem keeps_rel : ∀ {x : Dm} {l m : Bits}, x.apart ≠ 0 → Keeps x l m → rel (decide (x.apart = 2)) x.a x.d (2 ^ l.length - 1) (code l) (code m) = true := by
  have key : ∀ (k a d : Bool) (n u v : Nat), (k = true → (Nat.land u v != u && Nat.land u v != v) = true) → (k = false → (u != v) = true) → (d = true → (Nat.land u v != 0) = true) → (a = true → (Nat.lor u v != n) = true) → rel k a d n u v = true := by
    intro k a d n u v h1 h2 h3 h4
    unfold rel
    rw [Bool.and_eq_true_iff, Bool.and_eq_true_iff]
    refine ⟨⟨?_, ?_⟩, ?_⟩
    · cases k with
      | true => exact h1 rfl
      | false => exact h2 rfl
    · cases d with
      | true => exact h3 rfl
      | false => rfl
    · cases a with
      | true => exact h4 rfl
      | false => rfl
  intro x l m h0 h
  refine key _ _ _ _ _ _ (fun e => ?_) (fun e => ?_) (fun e => ?_) (fun e => ?_)
  · obtain ⟨xa, xb, xc, xd⟩ := x
    cases xb with
    | false => cases xc with
      | false => cases e
      | true => cases e
    | true => cases xc with
      | false => cases e
      | true => exact Bool.and_eq_true_iff.mpr ⟨bne_iff_ne.mpr (show10 (h true false rfl)), bne_iff_ne.mpr (show01 (h false true rfl))⟩
  · obtain ⟨xa, xb, xc, xd⟩ := x
    cases xb with
    | false => cases xc with
      | false => exact absurd rfl h0
      | true => exact bne_iff_ne.mpr (show_ne (by decide) (h true false rfl))
    | true => exact bne_iff_ne.mpr (show_ne (by decide) (h false true rfl))
  · exact bne_iff_ne.mpr (show11 (h true true (by cases x; exact e)))
  · exact bne_iff_ne.mpr (show00 (h false false (by cases x; exact e)))
theorem land_comm' (u v : Nat) : Nat.land u v = Nat.land v u := Nat.and_comm u v
theorem lor_comm' (u v : Nat) : Nat.lor u v = Nat.lor v u := Nat.or_comm u v
theorem rel_symm {k a d : Bool} {n u v : Nat} (h : rel k a d n u v = true) : rel k a d n v u = true := by
  unfold rel at *
  rw [land_comm' v u, lor_comm' v u]
  cases k with
  | false =>
    have e : (v != u) = (u != v) := by
      rw [Bool.eq_iff_iff, bne_iff_ne, bne_iff_ne]
      exact ⟨Ne.symm, Ne.symm⟩
    dsimp only at *
    rw [e]
    exact h
  | true =>
    dsimp only at *
    rw [Bool.and_comm (Nat.land u v != v)]
    exact h
/-- a row of related numbers -/
theorem row_rel {R : Nat → Nat → Bool} (hs : ∀ u v, R u v = true → R v u = true) : ∀ {l : List Nat}, l.Pairwise (fun u v => R u v = true) → ∀ u ∈ l, ∀ v ∈ l, u ≠ v → R u v = true
  | [], _, u, hu, _, _, _ => by cases hu
  | w :: l, hp, u, hu, v, hv, hn => by
    obtain ⟨h1, h2⟩ := List.pairwise_cons.mp hp
    rcases List.mem_cons.mp hu with e1 | e1
    · rcases List.mem_cons.mp hv with e2 | e2
      · exact absurd (e1.trans e2.symm) hn
      · rw [e1]; exact h1 v e2
    · rcases List.mem_cons.mp hv with e2 | e2
      · rw [e2]; exact hs _ _ (h1 u e1)
      · exact row_rel hs h2 u e1 v e2 hn
theorem row_nodup {R : Nat → Nat → Bool} (hn : ∀ u, R u u = false) {l : List Nat} (hp : l.Pairwise (fun u v => R u v = true)) : l.Nodup :=
  hp.imp fun h e => by
    subst e
    rw [hn] at h
    cases h
theorem rel_irr {k a d : Bool} {n u : Nat} : rel k a d n u u = false := by
  unfold rel
  rw [show Nat.land u u = u from Nat.and_self u]
  cases k with
  | false => simp
  | true => simp
/-- the search's word for a row of columns -/
theorem by_search {k a d : Bool} {n m : Nat} {l : List Nat} (h : okS (rel k a d (2 ^ n - 1)) 100 m (List.range (2 ^ n)) = true) (hl : ∀ u ∈ l, u < 2 ^ n) (hp : l.Pairwise (fun u v => rel k a d (2 ^ n - 1) u v = true)) : l.length ≤ m :=
  okS_sound 100 m _ l h (row_nodup (fun _ => rel_irr) hp) (fun u hu => List.mem_range.mpr (hl u hu)) (row_rel (fun _ _ => rel_symm) hp)
def capS (k a d : Bool) (n : Nat) : Nat := match k with
  | false => 2 ^ (n - (b2n a + b2n d))
  | true => if b2n a + b2n d = 2 then max 1 (Cm (n - 1) (n / 2 - 1)) else max 1 (Cm n (n / 2 + (b2n a + b2n d)))
def tried (k a d : Bool) (n : Nat) : Bool := Nat.ble 13 (capS k a d n) || okS (rel k a d (2 ^ n - 1)) 100 (capS k a d n) (List.range (2 ^ n))
def triedTo (m : Nat) (k a d : Bool) : Bool := (List.range m).all (tried k a d)
theorem tried_fff : triedTo 6 false false false = true := by decide +kernel
theorem tried_fft : triedTo 6 false false true = true := by decide +kernel
theorem tried_ftf : triedTo 6 false true false = true := by decide +kernel
theorem tried_ftt : triedTo 6 false true true = true := by decide +kernel
theorem tried_tff : triedTo 6 true false false = true := by decide +kernel
theorem tried_tft : triedTo 6 true false true = true := by decide +kernel
theorem tried_ttf : triedTo 6 true true false = true := by decide +kernel
theorem tried_ttt : triedTo 6 true true true = true := by decide +kernel
theorem tried_5 (k a d : Bool) {n : Nat} (h : n < 6) : tried k a d n = true := by
  have z : triedTo 6 k a d = true := by
    cases k with
    | false => cases a with
      | false => cases d with
        | false => exact tried_fff
        | true => exact tried_fft
      | true => cases d with
        | false => exact tried_ftf
        | true => exact tried_ftt
    | true => cases a with
      | false => cases d with
        | false => exact tried_tff
        | true => exact tried_tft
      | true => cases d with
        | false => exact tried_ttf
        | true => exact tried_ttt
  exact List.all_eq_true.mp z n (List.mem_range.mpr h)
def turn6 (u : Nat) : Nat := if u % 2 = 1 then u else 63 - u
theorem turn6_ok : ((List.range 64).all fun u => ((List.range 32).map fun u => 2 * u + 1).elem (turn6 u) && (List.range 64).all fun v => !rel true true true 63 u v || rel true true true 63 (turn6 u) (turn6 v)) = true := by decide +kernel
theorem okS_6 : okS (rel true true true 63) 100 10 ((List.range 32).map fun u => 2 * u + 1) = true := by decide +kernel
theorem six {l : List Nat} (hl : ∀ u ∈ l, u < 64) (hp : l.Pairwise (fun u v => rel true true true 63 u v = true)) : l.length ≤ 10 := by
  have t := fun u (hu : u < 64) => List.all_eq_true.mp turn6_ok u (List.mem_range.mpr hu)
  have hp2 : (l.map turn6).Pairwise (fun u v => rel true true true 63 u v = true) := by
    refine List.pairwise_map.mpr (hp.imp_of_mem fun {u v} hu hv h => ?_)
    have z := List.all_eq_true.mp (Bool.and_eq_true_iff.mp (t u (hl u hu))).2 v (List.mem_range.mpr (hl v hv))
    rw [h] at z
    exact z
  have := okS_sound 100 10 _ (l.map turn6) okS_6 (row_nodup (fun _ => rel_irr) hp2) (fun v hv => by
    obtain ⟨u, hu, rfl⟩ := List.mem_map.mp hv
    exact List.elem_iff.mp (Bool.and_eq_true_iff.mp (t u (hl u hu))).1) (row_rel (fun _ _ => rel_symm) hp2)
  rwa [List.length_map] at this
theorem cap_big {k : Nat} {x : Dm} (N : Nat) (h0 : x.apart ≠ 0) (h : k ≤ capS (decide (x.apart = 2)) x.a x.d N) : few x k N = false := by
  unfold few most
  rw [if_neg h0]
  by_cases h1 : x.apart = 1
  · rw [if_pos h1]
    rw [h1] at h
    exact decide_eq_false (Nat.not_lt.mpr h)
  · rw [if_neg h1]
    have h2 : x.apart = 2 := by have := x.apart_le; omega
    rw [h2] at h
    have h' : k ≤ if x.same = 2 then max 1 (Cm (N - 1) (N / 2 - 1)) else max 1 (Cm N (N / 2 + x.same)) := h
    by_cases h3 : x.same = 2
    · rw [if_pos h3] at h' ⊢
      rw [Cm_eq] at h'
      exact decide_eq_false (Nat.not_lt.mpr h')
    · rw [if_neg h3] at h' ⊢
      rw [Cm_eq] at h'
      exact decide_eq_false (Nat.not_lt.mpr h')
theorem cap_down : ∀ k a d : Bool, ∀ n < 10, 6 ≤ n → (13 ≤ capS k a d n ∨ (n = 6 ∧ k = true ∧ a = true ∧ d = true)) := by decide +kernel
theorem few_kept {x : Dm} {N : Nat} {cs : List Bits} (hN : N ≤ 9) (hl : ∀ c ∈ cs, c.length = N) (h13 : cs.length ≤ 13) (hp : cs.Pairwise (Keeps x)) : few x cs.length N = false := by
  by_cases h0 : x.apart = 0
  · match cs, hl, hp with
    | [], _, _ => unfold few most; rw [if_pos h0]; by_cases h : x.same ≤ N
                  · rw [if_pos h]
                  · rw [if_neg h]; rfl
    | [_], _, _ => unfold few most; rw [if_pos h0]; by_cases h : x.same ≤ N
                   · rw [if_pos h]
                   · rw [if_neg h]; rfl
    | l :: m :: r, hl, hp =>
      have e1 := hl l List.mem_cons_self
      have e2 := hl m (List.mem_cons_of_mem _ List.mem_cons_self)
      have := keeps_free (e1.trans e2.symm) ((List.pairwise_cons.mp hp).1 m List.mem_cons_self)
      unfold few most
      rw [if_pos h0, if_pos (show x.same ≤ N by omega)]
  · have hc : ∀ u ∈ cs.map code, u < 2 ^ N := fun u hu => by
      obtain ⟨c, hc, rfl⟩ := List.mem_map.mp hu
      have := code_lt c
      rwa [hl c hc] at this
    have hq : (cs.map code).Pairwise (fun u v => rel (decide (x.apart = 2)) x.a x.d (2 ^ N - 1) u v = true) := by
      refine List.pairwise_map.mpr (hp.imp_of_mem fun {l m} hl' hm' h => ?_)
      have := keeps_rel h0 h
      rwa [hl l hl'] at this
    refine cap_big N h0 ?_
    by_cases h6 : N < 6
    · rcases Bool.or_eq_true_iff.mp (tried_5 (decide (x.apart = 2)) x.a x.d h6) with h | h
      · exact Nat.le_trans h13 (Nat.le_of_ble_eq_true h)
      · have := by_search h hc hq
        rwa [List.length_map] at this
    · rcases cap_down (decide (x.apart = 2)) x.a x.d N (by omega) (by omega) with h | ⟨rfl, ek, ea, ed⟩
      · omega
      · rw [ek, ea, ed] at hq ⊢
        have := six hc hq
        rw [List.length_map] at this
        exact Nat.le_trans this (by decide)
theorem fewest_kept {x : Dm} {N : Nat} {cs : List Bits} (hN : N ≤ 9) (hl : ∀ c ∈ cs, c.length = N) (h13 : cs.length ≤ 13) (hp : cs.Pairwise (Keeps x)) : fewest x cs.length ≤ N :=
  fewest_least x (Nat.le_trans h13 (by decide)) (few_kept hN hl h13 hp)
end Fw
end
section
set_option Elab.async false
set_option linter.all false
set_option maxRecDepth 100000
set_option maxHeartbeats 2000000
/-! Rules of my own over the layer: defs by name, calls, repr of data, str of an own instance, sums of bools, a dict of the top asked with a default. -/
namespace FwR
open PySem PySem.Spec PyProof.Rows L2
/-! ### defs by name -/
/-- the module's name g stands for the def x of the text -/
def Here (K : PySem.W.Frag) (mg : Str → Option Value) (g x : Str) (st : Stmt) : Prop :=
  ∃ f fd, FunD K x x (defArgs st) (defBody st) (defScope st) [] [] f fd ∧ mg g = some (.ref f)
/-- the name x can be called: it keeps the promise sp -/
def Av (P : Program) (w : World) (K : PySem.W.Frag) (mg : Str → Option Value) (base : Heap) (x : Str) (k : Nat) (ps : List Str) (sp : Sp) : Prop :=
  ∃ f fd, FnOk P w K mg base CX0 k f fd ps sp ∧ mg x = some (.ref f) ∧ PySem.W.keepIn K (.ref f) = true ∧ Binds K fd ps []
section
variable {P : Program} {w : World} {K : PySem.W.Frag} {mg : Str → Option Value} {base : Heap}
theorem Av.mono {x : Str} {j k : Nat} {ps : List Str} {sp : Sp} (a : Av P w K mg base x j ps sp) (h : j ≤ k) : Av P w K mg base x k ps sp :=
  let ⟨f, fd, F, m, kp, b⟩ := a
  ⟨f, fd, F.mono h, m, kp, b⟩
theorem av_mk {g x : Str} {st : Stmt} {N ps : List Str} {k : Nat} {sp : Sp} (h : Here K mg g x st) (S : FnScope N ps (defScope st))
    (hb : ∀ (kV doc pm : Value) (an : Option Addr) (cdv ct : Value) (us : List Value), us.length = ps.length → bindArgs (PySem.W.fnOf x x (defArgs st) (defBody st) (defScope st) .none kV doc pm an cdv ct) ⟨us, []⟩ = pure (ps.zip us))
    (len : ∀ vs H Q E, sp vs H Q E → vs.length = ps.length)
    (body : ∀ (f : Addr) (cdv : Value) (A : Around) (outer : List Env) (s : Shared) (H : Hp) (vs : List V) (Q : VK) (E : XK), Room k (A.deeper (envOfC x (defScope st) s.heap.objs.size f cdv)) → sp vs H Q E →
      ∃ t, PSs (cxOf CX0 P w K mg base N x (defScope st) f cdv A outer s H E).nox (defBody st) t ∧ t { nx := fun _ H' => Q .non H', rt := Q } (start N vs) H) : Av P w K mg base g (k + 1) ps sp := by
  obtain ⟨f, fd, F, m⟩ := h
  refine ⟨f, fd, F.ok S len fun cdv A outer s H vs Q E hr hsp => ?_, m, F.kp, F.bindsN hb⟩
  obtain ⟨t, ht, q⟩ := body f cdv A outer s H vs Q E hr hsp
  exact ⟨t, ht.nox, q⟩
end
section
variable {X : Cx} {x : Str} {k : Nat} {ps : List Str} {sp : Sp} {p pos : Pos} {e : Expr} {es : List Expr} {t : TA}
def tCallV (sp : Sp) (t : TA) : TE := fun σ H Q => t σ H fun vs H1 => sp vs H1 Q E0
theorem pe_callV (a : Av X.prog X.w X.K X.mg X.base x k ps sp) (hr : Room k X.A) (hg : Gl X x) (ha : PA X (e :: es) t) (hdb : (x == ("__debug__" : Str)) = false := by decide)
    (he : starEach (e :: es) X.env = (false, eval e X.env) :: starEach es X.env := by rfl) (hpl : (backTo pos (starEach es X.env)).any (·.1) = false := by rfl) :
    PE X (.Call (.Name x p) (e :: es) [] pos) (tCallV sp t) := by
  obtain ⟨f, fd, F, m, kp, b⟩ := a
  have z := pe_call (p := p) (pos := pos) F hr hg m kp b .nil (pass0 (X := X)) ha hdb he hpl
  refine ⟨fun pins s σ H Q I h => z.run pins s σ H Q I ?_⟩
  have e1 : (fun (vs : List V) (H1 : Hp) => sp (vs ++ []) H1 Q E0) = fun vs H1 => sp vs H1 Q E0 := by funext vs H1; rw [List.append_nil]
  show t σ H (fun vs H1 => sp (vs ++ []) H1 Q E0)
  rw [e1]
  exact h
/-- f(a = x, b = y): by keywords alone, written in the order ks; g puts them in the parameters' order -/
theorem pe_callK0 {f : Addr} {fd : FuncData} {CX : CXT} {ks : List Str} {E : XK} {kws : List Keyword} {tk : TA} {g : List Value → List Value → List Value} {gV : List V → List V → List V}
    (F : FnOk X.prog X.w X.K X.mg X.base CX k f fd ps sp) (hr : Room k X.A) (hg : Gl X x) (hm : X.mg x = some (.ref f)) (hk : PySem.W.keepIn X.K (.ref f) = true) (hb : KBn X.K fd ps 0 ks g gV) (hx : Passes CX X E)
    (hkw : PK X kws tk) (hall : (backToKw pos (keywordEach kws X.env)).all (·.1.isSome) = true := by rfl) (hks : (backToKw pos (keywordEach kws X.env)).filterMap (·.1) = ks := by rfl)
    (hdb : (x == ("__debug__" : Str)) = false := by decide) (hpl : ((backTo pos (starEach [] X.env)).any (·.1) || (backToKw pos (keywordEach kws X.env)).any (·.1.isNone)) = false := by rfl) :
    PE X (.Call (.Name x p) [] kws pos) (fun σ H Q => tk σ H fun zs H1 => zs.length = ks.length ∧ sp (gV [] zs) H1 Q E) := by
  refine ⟨fun pins s σ H Q I h => ?_⟩
  refine wpAny_Call_Name_kw (ld_glob I hg hm ?_ hdb)
  refine PySem.W.callWith_KW0 (h₀ := X.base) I.ok.mod.kin hk hall (thn (hkw.run pos pins s σ H _ I h) fun ws s2 hq => ?_) hpl
  obtain ⟨zs, H2, I2, rz, l2, q2⟩ := hq
  refine ⟨I2.kIn, ?_⟩
  rw [hks]
  exact run_fnN (us := []) (vs := []) F hr hb hx I2 .nil rz rfl l2 q2
end
/-! ### a class called with a starred argument -/
section
variable {X : Cx} {CX : CXT} {k : Nat} {f C : Addr} {sp : Sp} {E : XK} {x : Str} {e : Expr} {te : TE} {p pos q : Pos}
theorem pe_makeS (M : Mk X.K C f) (F : FnR X.prog X.w X.K X.mg X.base CX k f sp) (hr : Room (k + 1) X.A) (hg : Gl X x) (hm : X.mg x = some (.ref C)) (hx : Passes CX X E) (he : PE X e te) (hdb : (x == ("__debug__" : Str)) = false := by decide)
    (hst : starEach [.Starred e q] X.env = [(true, eval e X.env)] := by rfl) :
    PE X (.Call (.Name x p) [.Starred e q] [] pos) (fun σ H Q => te σ H fun y H1 => ∃ a xs, y = V.ref a ∧ (SqT X.K H1 a xs ∨ SqL X.K H1 a xs) ∧ ∀ o dx, H1 o = Option.none → H1 dx = Option.none → dx ≠ o →
      sp (V.ref o :: xs) (upd (upd H1 dx (.own o)) o (.ins C dx [])) (fun v H2 => v = .non ∧ Q (.ref o) H2) E) := by
  refine ⟨fun pins s σ H Q I h => ?_⟩
  refine wpAny_Call_Name_kw (ld_glob I hg hm ?_ hdb)
  refine PySem.W.callWith_S (h₀ := X.base) I.ok.mod.kin M.kp (thn (he.run pins s σ H _ I h) fun v s1 hq => ?_) hst
  obtain ⟨y, H1, I1, ry, a, xs, ey, hxs, hmk⟩ := hq
  subst ey
  obtain rfl : v = Value.ref a := ry
  exact StX.star_any I1 hxs fun us s2 I2 rv => ⟨I2.kIn, StX.run_makeR M F hr hx I2 rv hmk⟩
end
/-! ### operators -/
theorem op_add_bb {X : Cx} : OpR X (binaryOp .Add) (fun x y H Q => ∃ i j, x = .bl i ∧ y = .bl j ∧ Q (.int (b2i i + b2i j)) H) := by
  intro pins s σ H x y v u Q I rx ry h
  obtain ⟨i, j, rfl, rfl, q⟩ := h
  cases rx
  cases ry
  exact add_bool ⟨.int (b2i i + b2i j), H, I.tok _, ⟨_, rfl⟩, q⟩
/-- repr of data, where no repr is under way -/
theorem cr_repr {X : Cx} (hg : X.A.guards = some []) (hu : X.A.units + 64 < cLine) : CallR X (.builtin "repr") (fun xs H Q => ∃ a d, xs = [.ref a] ∧ Dp X.K H (.ref a) d ∧ d.showable = true ∧ d.hasDict = false ∧ d.depth ≤ 60 ∧ d.shown.length ≤ sizeLine ∧ Q (.str d.shown) H) := by
  intro pins s σ H xs us Q I r h
  obtain ⟨a, d, rfl, hd, hs, hn, hdep, hsz, q⟩ := h
  obtain ⟨u, rfl, ru⟩ := vals1 r
  obtain ⟨as, hr⟩ := Dp.reads I d _ _ hd ru
  obtain rfl : u = Value.ref a := ru
  exact repr_of_reads' hr hs (fun z => by rw [hn] at z; cases z) hg (by omega) (fun b o e => e) (fun h' u tk hk => ⟨.str d.shown, H, I.kept (t' := tk) hk, ⟨_, rfl⟩, q⟩) hsz
/-! ### a dict of the top, asked with a default -/
section
variable {X : Cx} {o e f : Expr} {apos cpos : Pos} {td ty tx : TE}
def tKGet (K : PySem.W.Frag) (d : Addr) (td ty tx : TE) : TE := fun σ H Q => td σ H fun x H1 => x = .ref d ∧ ty σ H1 fun y H2 => tx σ H2 fun z H3 => ∃ (k : Str) (r : Option Value) (v : V), y = .str k ∧ PySem.W.nsIn K d k = some r ∧
  (match r with
    | some u => RelV v u
    | none => v = z) ∧ Q v H3
theorem pe_kget {d : Addr} {es : Array DictEntry} {n : Nat} (D : KDict X.K X.w d es n) (ho : PE X o td) (he : PE X e ty) (hf : PE X f tx) (m : M2 X o "get" apos e f cpos) : PE X (.Call (.Attribute o "get" apos) [e, f] [] cpos) (tKGet X.K d td ty tx) := by
  refine ⟨fun pins s σ H Q I h => ?_⟩
  refine wpAny_Call_method m.base m.few m.line PySem.F.plainAttrs_dict PySem.F.slot_dict_get PySem.F.type_dict_get (thn (ho.run pins s σ H _ I h) fun u s1 hq => ?_)
  obtain ⟨x, H1, I1, rx, ex, q1⟩ := hq
  subst ex
  obtain rfl : u = Value.ref d := rx
  refine ⟨kd_type D I1, fun b q => ?_, ?_⟩
  · cases q
    exact ⟨_, I1.kIn _ _ D.at_, rfl⟩
  rw [m.trees]
  refine Calls.callWith_builtin rfl (Calls.evalArgs_plain (Calls.spliced_cons (thn (he.run pins s1 σ H1 _ I1 q1) fun iv s2 h2 => ?_)))
  obtain ⟨y, H2, I2, ry, q2⟩ := h2
  refine Calls.spliced_cons (thn (hf.run pins s2 σ H2 _ I2 q2) fun fv s3 h3 => Calls.spliced_nil ?_)
  obtain ⟨z, H3, I3, rz, k, r, v, rfl, hn, hv, q3⟩ := h3
  obtain ⟨t, rfl⟩ := ry
  have mo := PySem.W.mapOf_K (prog := X.prog) (w := X.w) I3.kIn D.at_ D.lit
  refine call_meetsIn PySem.F.slot_dict_get mo.typeIs PySem.F.entry_dict_get (PySem.F.args_dict_get_3 _ _ _) (meets_dict_get_default (strKind X.prog X.w) d (strKind_is X.prog X.w k t) D.low fv) ⟨_, mo, v, H3, I3.tok _, ?_, q3⟩
  rw [PySem.W.find_K D.at_ hn]
  cases r with
  | none =>
    obtain rfl : v = z := hv
    exact rz
  | some u => exact hv
end
/-! ### str(x), x an instance of a class with its own __str__ -/
section
variable {X : Cx} {C g : Addr} {fd : FuncData} {k : Nat} {ps : List Str} {sp : Sp}
theorem cr_strOwn (cl : Cls X.K C) (hm : Meth X.K C "__str__" g) (F : FnOk X.prog X.w X.K X.mg X.base CX0 k g fd ps sp) (hb : Binds X.K fd ps []) (hr : Room (k + 2) X.A) :
    CallR X (.type "str") (fun xs H Q => ∃ a dx fs, xs = [.ref a] ∧ H a = some (.ins C dx fs) ∧ sp [.ref a] H (fun v H' => ∃ z, v = .str z ∧ Q v H') E0) := by
  intro pins s σ H xs us Q I r h
  obtain ⟨a, dx, fs, rfl, ha, q⟩ := h
  obtain ⟨u, rfl, ru⟩ := vals1 r
  obtain rfl : u = Value.ref a := ru
  obtain ⟨mA, O, _⟩ := ins_get I.hok ha
  obtain ⟨od, J, _⟩ := O.look
  have hu := hr.units
  refine PySem.W.kso_call (by show X.A.units + 1 + 1 < cLine; omega) I.kIn J hm.at_ hm.fn ?_
  have hl : ([Value.ref a] ++ []).length = ps.length := by rw [← F.len _ _ _ _ q] <;> rfl
  refine wpAny_call (codeAny_mono (F.run X.A.in1.in1 X.stack s H ⟨[.ref a], []⟩ [.ref a] [.ref a] _ E0 (Room.in1 (Room.in1 hr)) I.env0.in1.in1 (hb s [.ref a] I.kIn hl) (.cons rfl .nil) q) fun r s' hq => ?_)
  cases r with
  | error er => exact False.elim hq
  | ok fl =>
    cases fl with
    | ret u =>
      obtain ⟨v, H', I3, rv, z, rfl, q3⟩ := I.after hq
      obtain ⟨t, rfl⟩ := rv
      exact ⟨.str z, H', I3, ⟨t, rfl⟩, q3⟩
    | next => exact False.elim hq
    | brk => exact False.elim hq
    | cont => exact False.elim hq
end
end FwR
end
section
set_option Elab.async false
set_option linter.all false
set_option maxRecDepth 100000
set_option maxHeartbeats 2000000
/-! enumerate over a text, over a tuple. -/
namespace FwR
open PySem PySem.Spec PyProof.Rows L2
/-- pairs (i, f i) for i below n, each in a new tuple -/
def Itf (n : Nat) (f : Nat → Option V) : It :=
  ⟨fun i _ => i < n, fun i H v H' => ∃ T x, v = .ref T ∧ H T = none ∧ H' = upd H T (.tup [.int (i : Nat), x]) ∧ f i = some x, fun i _ => n ≤ i⟩
theorem walk_f {n : Nat} {f : Nat → Option V} : Walk (Itf n f) n (fun _ => True) (fun i H v H' => ∃ T x, v = .ref T ∧ H T = none ∧ H' = upd H T (.tup [.int (i : Nat), x]) ∧ f i = some x) :=
  ⟨fun _ _ hi _ => hi, fun _ _ => Nat.le_refl _, fun _ _ _ _ _ _ y => y⟩
/-- what a drawing iterator must tell of the values it hands out -/
theorem turn_f {P : Program} {w : World} {K : PySem.W.Frag} {elts : List Expr} {kk n : Nat} {tpos : Pos} {e it : Addr} {fp : List Addr} {f : Nat → Option V} {PD : Nat → Value → Prop} {St : Nat → Heap → Prop}
    (D : ∀ A : Around, A.handled = none → Draws P w A it fp n PD St) (hit : it ∈ fp) (hne : e ≠ it) (hef : e ∉ fp) (hst : ∀ i h, St i h → ∀ b ∈ fp, ∃ o, h.get? b = some o)
    (hcell : ∀ i h, St i h → ∃ o, h.get? it = some o ∧ ∀ v, o.data ≠ .cell v) (hfp : ∀ b ∈ fp, b = it)
    (hv : ∀ i v, PD i v → ∃ x, f i = some x ∧ RelV x v) :
    Turn P w K (.Tuple elts kk tpos) (Itf n f) [e, it] e (fun i h => i ≤ n ∧ (∃ old, IsEnum h e it ((i : Nat) : Int) old) ∧ St i h) where
  mem := List.mem_cons_self
  obj := fun i h st b hb => by
    obtain ⟨_, ⟨old, he⟩, hs⟩ := st
    rcases List.mem_cons.mp hb with z | z
    · rw [z]; exact ⟨_, he, fun v q => nomatch q⟩
    · rw [List.mem_singleton.mp z]; exact hcell i h hs
  keep := fun i h h' st k => by
    obtain ⟨hle, ⟨old, he⟩, hs⟩ := st
    exact ⟨hle, ⟨old, k e List.mem_cons_self _ he⟩, (D {} rfl).frame _ _ _ hs fun b hb o q => k b (by rw [hfp b hb]; exact List.mem_cons_of_mem _ List.mem_cons_self) o q⟩
  item := by
    intro X hP hw hK hc i pins s σ H E I hf st hg
    subst hP hw hK
    obtain ⟨_, ⟨old, he⟩, hs⟩ := st
    have hel : e < s.heap.objs.size := Heap.lt_size he
    have hil : it < s.heap.objs.size := by
      obtain ⟨o, q⟩ := hst i _ hs it hit
      exact Heap.lt_size q
    refine wpAny_pyNext_enum_itemC (D X.A.in1 (I.ok.hd hc)) he hs hg hne hef fun u h' tk hP ho hs' hT hsz hk => ?_
    obtain ⟨x, hx, rx⟩ := hv i u hP
    refine ⟨_, rfl, wpAny_letOwnedTupleGo_enum (s := { s with heap := h', toks := tk + 1 }) ho fun h'' he' sb => ?_⟩
    have hT2 : h''.get? s.heap.objs.size = some { cls := .type "tuple", data := .seq #[.int i tk, u] } := (sb.2 _ (Nat.ne_of_gt hel)).trans hT
    have new : ObjOk X.prog X.w (upd H s.heap.objs.size (.tup [.int (i : Nat), x])) h'' s.heap.objs.size (.tup [.int (i : Nat), x]) :=
      ⟨by show 2 ≤ sizeLine; decide, [.int i tk, u], .cons ⟨_, rfl⟩ (.cons rx .nil), ⟨_, hT2, rfl, _, rfl⟩⟩
    have I1 : Inv X pins σ (upd H s.heap.objs.size (.tup [.int (i : Nat), x])) { s with heap := h'', toks := tk + 1 } :=
      I.turnedNew (ch := [e, it]) (fun b ob hb q => (sb.2 b (fun z => hb (by simp [z]))).trans (hk b ob (fun z => hb (by simp [z])) (fun z => hb (by simp [z])) q)) hf (Nat.le_refl _) new
    have hs2 : St (i + 1) h'' := (D {} rfl).frame _ _ _ hs' fun b hb o q => (sb.2 b (fun z => hef (z ▸ hb))).trans q
    refine ⟨.ref s.heap.objs.size, _, I1, rfl, ⟨_, x, rfl, I.hok.fresh (Nat.le_refl _), rfl, hx⟩, ⟨hg, ⟨u, ?_⟩, hs2⟩, fun b hb => ?_⟩
    · have e1 : ((i + 1 : Nat) : Int) = (i : Int) + 1 := by omega
      rw [e1]; exact he'
    · have hb' : b < s.heap.objs.size := by
        rcases List.mem_cons.mp hb with z | z
        · rw [z]; exact hel
        · rw [List.mem_singleton.mp z]; exact hil
      rw [upd_ne (Nat.ne_of_lt hb')]
      exact (hf b hb).1
  done := by
    intro X hP hw hK hc i pins s σ H E I hf st hg
    subst hP hw hK
    obtain ⟨hle, ⟨old, he⟩, hs⟩ := st
    obtain ⟨f0, f1, f2, f3, f4, f5⟩ := hf it (by simp)
    have ei : i = n := Nat.le_antisymm hle hg
    subst ei
    exact wpAny_pyNext_enum_endD (D X.A.in1 (I.ok.hd hc)) he hs fun h' eb => ⟨rfl, I.turned (t' := s.toks) (fun b o hb q => eb b o hb q) f0 f1 f3 f4 f5⟩
  self := fun A i s Q E st h => let ⟨_, ⟨_, he⟩, _⟩ := st; wpAny_pyIter_enum he h
def signV (z : Str) (i : Nat) : Option V := z.cps[i]?.map fun c => .str ⟨#[c]⟩
def iEnumS (ta : TA) : TI := fun σ H R => ta σ H fun vs H1 => ∃ z : Str, vs = [.str z] ∧ R (Itf z.cps.size (signV z)) H1
/-- enumerate(text) -/
theorem pi_enumS {X : Cx} {e : Expr} {ta : TA} {p pos tpos : Pos} {elts : List Expr} {kk : Nat} (hg : Gl X "enumerate") (hm : X.mg "enumerate" = none) (ha : PA X [e] ta) (hs : starEach [e] X.env = [(false, eval e X.env)] := by rfl) :
    PI X (.Tuple elts kk tpos) (.Call (.Name "enumerate" p) [e] [] pos) (iEnumS ta) := by
  refine ⟨fun pins s σ H R I h => ?_⟩
  refine Call_ (ld_blt I hg hm boot_enumerate (PyProof.Rows.callWith_type1 (thn (ha.run pos pins s σ H _ I h) fun us s1 hq => ?_) hs rfl))
  obtain ⟨vs, H1, I1, r1, z, ex, q⟩ := hq
  subst ex
  obtain ⟨u, rfl, t, rfl⟩ := vals1 r1
  refine call_enumerate_str fun h' he hit hsz hk => wpAny_pyIter_enum he ?_
  have I2 : Inv X pins σ H1 { s1 with heap := h' } := I1.kept (t' := s1.toks) hk
  have T := turn_f (P := X.prog) (w := X.w) (K := X.K) (elts := elts) (kk := kk) (tpos := tpos) (n := z.cps.size) (e := s1.heap.objs.size + 1) (it := s1.heap.objs.size) (f := signV z)
    (fun A hA => Draws.text (prog := X.prog) (w := X.w) hA s1.heap.objs.size z t) List.mem_cons_self (Nat.succ_ne_self _) (fun hm => Nat.succ_ne_self _ (List.mem_singleton.mp hm))
    (fun i h st b hb => by
      obtain ⟨o, ho, _⟩ := st
      rw [List.mem_singleton.mp hb]
      exact ⟨o, ho⟩)
    (fun i h st => by
      obtain ⟨o, ho, _, hd⟩ := st
      exact ⟨o, ho, fun v q => by rw [hd] at q; cases q⟩)
    (fun b hb => List.mem_singleton.mp hb)
    (fun i v hv => by
      obtain ⟨c, u, hc, rfl⟩ := hv
      exact ⟨.str ⟨#[c]⟩, by unfold signV; rw [hc] <;> rfl, u, rfl⟩)
  refine ⟨s1.heap.objs.size + 1, [s1.heap.objs.size + 1, s1.heap.objs.size], _, _, H1, rfl, I2, T, ⟨Nat.zero_le _, ⟨.none, he⟩, hit⟩, fun b hb => ?_, q⟩
  have e' : b = s1.heap.objs.size + 1 ∨ b = s1.heap.objs.size := by simpa using hb
  have hle : s1.heap.objs.size ≤ b := by
    rcases e' with z | z
    · rw [z]; exact Nat.le_add_right _ _
    · rw [z]; exact Nat.le_refl _
  exact I1.fpOk hle (I1.hok.fresh hle)

/-! ### a tuple -/
theorem sqt_ne {X : Cx} {pins : List (Addr × Obj)} {σ : L2.St} {H : Hp} {s : Shared} {a b : Addr} {xs : List V} (I : Inv X pins σ H s) (h : SqT X.K H a xs) (f : FpOk X pins H b) : a ≠ b := by
  intro e
  subst e
  rcases h with (h | ⟨o, h⟩) | ⟨o, its, n, h, _⟩
  · rw [f.1] at h; cases h
  · rw [f.1] at h; cases h
  · have hb := I.ok.mod.kin a o h
    rcases f.2.2.2.1 with z | z
    · exact I.ok.noex a o hb z
    · exact absurd (Nat.lt_of_lt_of_le (Heap.lt_size hb) (Nat.le_trans I.ok.bsz z)) (Nat.lt_irrefl _)
def Itu (K : PySem.W.Frag) (a : Addr) : It :=
  ⟨fun i H => ∃ (xs : List V) (x : V), SqT K H a xs ∧ xs[i]? = some x, fun i H v H' => ∃ T x, v = .ref T ∧ H T = none ∧ H' = upd H T (.tup [.int (i : Nat), x]) ∧ ∀ xs, SqT K H a xs → xs[i]? = some x, fun i H => ∃ xs : List V, SqT K H a xs ∧ xs.length = i⟩
theorem walk_u {K : PySem.W.Frag} {a : Addr} {xs : List V} : Walk (Itu K a) xs.length (fun H => SqT K H a xs) (YPair (fun i => some (.int (i : Nat))) (fun i => xs[i]?)) := by
  refine ⟨fun i _ hi q => ⟨xs, xs[i], q, by simp [hi]⟩, fun _ q => ⟨xs, q, rfl⟩, fun i H v H' _ q y => ?_⟩
  obtain ⟨T, x, h1, h2, h3, h4⟩ := y
  exact ⟨T, .int (i : Nat), x, h1, h2, h3, rfl, h4 xs q⟩
theorem turn_u {P : Program} {w : World} {K : PySem.W.Frag} {elts : List Expr} {kk : Nat} {tpos : Pos} (a e it : Addr) :
    Turn P w K (.Tuple elts kk tpos) (Itu K a) [e, it] e (fun i h => (∃ old, IsEnum h e it ((i : Nat) : Int) old) ∧ h.IsTupleIter it a i ∧ e ≠ it) where
  mem := by simp
  obj := fun i h st b hb => by
    obtain ⟨⟨old, he⟩, ⟨o, ho, hc, hd⟩, _⟩ := st
    have e' : b = e ∨ b = it := by simpa using hb
    rcases e' with z | z
    · rw [z]; exact ⟨_, he, fun v q => nomatch q⟩
    · rw [z]; exact ⟨o, ho, fun v q => by rw [hd] at q; cases q⟩
  keep := fun i h h' st k => let ⟨⟨old, he⟩, hi, hne⟩ := st; ⟨⟨old, k e (by simp) _ he⟩, hi.at fun o q => k it (by simp) o q, hne⟩
  item := by
    intro X hP hw hK hc i pins s σ H E I hf st hg
    subst hP hw hK
    obtain ⟨⟨old, he⟩, hit, hne⟩ := st
    obtain ⟨xs, x, hq, hx⟩ := hg
    obtain ⟨its, rv, p, hz⟩ := I.tuple hq
    have hel : e < s.heap.objs.size := Heap.lt_size he
    have hil : it < s.heap.objs.size := by obtain ⟨_, q, _⟩ := hit; exact Heap.lt_size q
    have ae : a ≠ e := sqt_ne I hq (hf e (by simp))
    have ai : a ≠ it := sqt_ne I hq (hf it (by simp))
    have hlt : i < its.toArray.size := by
      have h1 := (List.getElem?_eq_some_iff.mp hx).1
      have h2 := rv.length
      rw [List.size_toArray]
      omega
    refine wpAny_pyNext_enum_itemC (Draws.tuple (A := X.A.in1) (I.ok.hd hc) it a ai its.toArray) he ⟨hit, p⟩ hlt hne (by simp [hne, Ne.symm ae]) fun u h' tk hP ho hs' hT hsz hk => ?_
    obtain ⟨u', hu', ru⟩ := rv.get hx
    have eu : u = u' := by
      have h1 : its[i]? = some u := by simpa using hP
      rw [h1] at hu'
      exact Option.some.inj hu'
    subst eu
    refine ⟨_, rfl, wpAny_letOwnedTupleGo_enum (s := { s with heap := h', toks := tk + 1 }) ho fun h'' he' sb => ?_⟩
    have hT2 : h''.get? s.heap.objs.size = some { cls := .type "tuple", data := .seq #[.int i tk, u] } := (sb.2 _ (Nat.ne_of_gt hel)).trans hT
    have new : ObjOk X.prog X.w (upd H s.heap.objs.size (.tup [.int (i : Nat), x])) h'' s.heap.objs.size (.tup [.int (i : Nat), x]) :=
      ⟨by show 2 ≤ sizeLine; decide, [.int i tk, u], .cons ⟨_, rfl⟩ (.cons ru .nil), ⟨_, hT2, rfl, _, rfl⟩⟩
    have I1 : Inv X pins σ (upd H s.heap.objs.size (.tup [.int (i : Nat), x])) { s with heap := h'', toks := tk + 1 } :=
      I.turnedNew (ch := [e, it]) (fun b ob hb q => (sb.2 b (fun z => hb (by simp [z]))).trans (hk b ob (fun z => hb (by simp [z])) (fun z => hb (by simp [z])) q)) hf (Nat.le_refl _) new
    refine ⟨.ref s.heap.objs.size, _, I1, rfl, ⟨_, x, rfl, I.hok.fresh (Nat.le_refl _), rfl, fun ys hy => by rw [I.tuple_inj hy hq]; exact hx⟩, ⟨⟨u, ?_⟩, hs'.1.at fun o q => (sb.2 it (Ne.symm hne)).trans q, hne⟩, fun b hb => ?_⟩
    · have e1 : ((i + 1 : Nat) : Int) = (i : Int) + 1 := by omega
      rw [e1]; exact he'
    · have hb' : b < s.heap.objs.size := by
        have e' : b = e ∨ b = it := by simpa using hb
        rcases e' with z | z
        · rw [z]; exact hel
        · rw [z]; exact hil
      rw [upd_ne (Nat.ne_of_lt hb')]
      exact (hf b hb).1
  done := by
    intro X hP hw hK hc i pins s σ H E I hf st hg
    subst hP hw hK
    obtain ⟨⟨old, he⟩, hit, hne⟩ := st
    obtain ⟨xs, hq, hx⟩ := hg
    obtain ⟨its, rv, p, hz⟩ := I.tuple hq
    obtain ⟨f0, f1, f2, f3, f4, f5⟩ := hf it (by simp)
    have ai : a ≠ it := sqt_ne I hq (hf it (by simp))
    have ei : its.toArray.size = i := by
      have h2 := rv.length
      rw [List.size_toArray]
      omega
    subst ei
    exact wpAny_pyNext_enum_endD (Draws.tuple (A := X.A.in1) (I.ok.hd hc) it a ai its.toArray) he ⟨hit, p⟩ fun h' eb => ⟨rfl, I.turned (t' := s.toks) (fun b o hb q => eb b o hb q) f0 f1 f3 f4 f5⟩
  self := fun A i s Q E st h => let ⟨⟨_, he⟩, _⟩ := st; wpAny_pyIter_enum he h
/-- enumerate(v) of what begins an iterator -/
theorem meets_enum1 {v : Value} {o : Obj} {H : Heap → Prop} (B : Begins v o H) : Meets (Builtin.«enumerate.__new__» ⟨[.type "enumerate", v], []⟩) (fun _ R s => H s.heap ∧
    R (.ok (.ret (.ref (s.heap.push o).objs.size))) { s with heap := (s.heap.push o).push { cls := .type "enumerate", data := .fields #[.none, .bool false, .ref s.heap.objs.size, rawInt 0, .none, .none] } }) :=
  .of_wp fun prog w A R s h => by
    obtain ⟨hp, g, d, tk, os⟩ := s
    obtain ⟨hb, h⟩ := h
    have hsub := sub_enumerate
    have it1 : ∀ {A' : Around} {E : Value → Shared → Prop} {Q : Value → Shared → Prop}, Q (.ref hp.objs.size) ⟨hp.push o, g, d, tk, os⟩ → wpAny (model prog w) A' (pyIter v) Q E ⟨hp, g, d, tk, os⟩ :=
      fun z => B.iter prog w _ _ ⟨hp, g, d, tk, os⟩ _ hb z
    wp_walk using it1
    refine wpAny_stack_any fun st => wpAny_pure ?_
    split
    · rename_i c _ _ _ _ _
      cases (c == Value.type "enumerate")
      · wp_walk using it1
        exact ⟨_, rfl, h⟩
      · wp_walk using it1
        exact ⟨_, rfl, h⟩
    · wp_walk using it1
      exact ⟨_, rfl, h⟩
theorem call_enum1 {prog : Program} {w : World} {A : Around} {E : Value → Shared → Prop} {s : Shared} {v : Value} {o : Obj} {H : Heap → Prop} {Q : Value → Shared → Prop} (B : Begins v o H) (hb : H s.heap)
    (h : ∀ h', IsEnum h' (s.heap.objs.size + 1) s.heap.objs.size 0 .none → h'.get? s.heap.objs.size = some o → (∀ b u, s.heap.get? b = some u → h'.get? b = some u) → Q (.ref (s.heap.objs.size + 1)) { s with heap := h' }) :
    wpAny (model prog w) A (call (.type "enumerate") [v]) Q E s := by
  refine callType_new F.called_enumerate (by decide) (F.typeCall_enumerate_1 _) (F.newCall_enumerate_1 _) (fun obj => F.args_object_init_2 obj _) F.entry_enumerate_new (meets_enum1 B) ⟨hb, ?_⟩
  have hz : (s.heap.push o).objs.size = s.heap.objs.size + 1 := Heap.size_push ..
  show _ ∧ _
  rw [hz]
  have he := Heap.get?_push_size (s.heap.push o) (o := { cls := .type "enumerate", data := .fields #[.none, .bool false, .ref s.heap.objs.size, rawInt 0, .none, .none] }) rfl
  rw [hz] at he
  exact ⟨⟨_, he, rfl⟩, h _ he (Heap.get?_push_of_some _ (Heap.get?_push_size _ B.free)) fun b u q => Heap.get?_push_of_some _ (Heap.get?_push_of_some _ q)⟩
def iEnumU (K : PySem.W.Frag) (ta : TA) : TI := fun σ H R => ta σ H fun vs H1 => ∃ a xs, vs = [.ref a] ∧ SqT K H1 a xs ∧ R (Itu K a) H1
/-- enumerate(tuple) -/
theorem pi_enumU {X : Cx} {e : Expr} {ta : TA} {p pos tpos : Pos} {elts : List Expr} {kk : Nat} (hg : Gl X "enumerate") (hm : X.mg "enumerate" = none) (ha : PA X [e] ta) (hs : starEach [e] X.env = [(false, eval e X.env)] := by rfl) :
    PI X (.Tuple elts kk tpos) (.Call (.Name "enumerate" p) [e] [] pos) (iEnumU X.K ta) := by
  refine ⟨fun pins s σ H R I h => ?_⟩
  refine Call_ (ld_blt I hg hm boot_enumerate (PyProof.Rows.callWith_type1 (thn (ha.run pos pins s σ H _ I h) fun us s1 hq => ?_) hs rfl))
  obtain ⟨vs, H1, I1, r1, a, xs, ex, hq, q⟩ := hq
  subst ex
  obtain ⟨u, rfl, ru⟩ := vals1 r1
  obtain rfl : u = Value.ref a := ru
  obtain ⟨its, rv, p', hz⟩ := I1.tuple hq
  refine call_enum1 (begins_tuple a its.toArray) (show s1.heap.IsTuple a its.toArray from p') fun h' he hit hk => wpAny_pyIter_enum he ?_
  have I2 : Inv X pins σ H1 { s1 with heap := h' } := I1.kept (t' := s1.toks) hk
  refine ⟨s1.heap.objs.size + 1, [s1.heap.objs.size + 1, s1.heap.objs.size], _, _, H1, rfl, I2, turn_u a (s1.heap.objs.size + 1) s1.heap.objs.size, ⟨⟨.none, he⟩, ⟨_, hit, rfl, rfl⟩, Nat.succ_ne_self _⟩, fun b hb => ?_, q⟩
  have e' : b = s1.heap.objs.size + 1 ∨ b = s1.heap.objs.size := by simpa using hb
  have hle : s1.heap.objs.size ≤ b := by
    rcases e' with z | z
    · rw [z]; exact Nat.le_add_right _ _
    · rw [z]; exact Nat.le_refl _
  exact I1.fpOk hle (I1.hok.fresh hle)
end FwR
end
section
set_option Elab.async false
set_option linter.all false
set_option maxRecDepth 100000
set_option maxHeartbeats 2000000
/-! Defs whose promise holds where no repr is under way: their calls, and the law's end over such a promise. -/
namespace FwR
open PySem PySem.Spec PyProof.Rows L2
/-- as FnOk of a def that lets nothing out, told where the guards are known to be none -/
structure FnG (P : Program) (w : World) (K : PySem.W.Frag) (mg : Str → Option Value) (base : Heap) (k : Nat) (f : Addr) (fd : FuncData) (ps : List Str) (sp : Sp) : Prop where
  len : ∀ vs H Q E, sp vs H Q E → vs.length = ps.length
  go : ∀ (A : Around) (outer : List Env) (s : Shared) (H : Hp) (args : Args) (us : List Value) (vs : List V) (Q : VK) (E : XK), A.guards = some [] → Room k A → Env0 P w K mg base A outer s H → BindsTo s fd args (ps.zip us) → Vals vs us →
    sp vs H Q E → codeAny (model P w) A (.call (.ref f) args) (CR CX0 outer P w H s Q E) s
def AvG (P : Program) (w : World) (K : PySem.W.Frag) (mg : Str → Option Value) (base : Heap) (x : Str) (k : Nat) (ps : List Str) (sp : Sp) : Prop :=
  ∃ f fd, FnG P w K mg base k f fd ps sp ∧ mg x = some (.ref f) ∧ PySem.W.keepIn K (.ref f) = true ∧ Binds K fd ps [] ∧ ∀ (s : Shared) (us : List Value), us.length = ps.length → BindsTo s fd ⟨us, []⟩ (ps.zip us)
section
variable {P : Program} {w : World} {K : PySem.W.Frag} {mg : Str → Option Value} {base : Heap}
theorem AvG.mono {x : Str} {j k : Nat} {ps : List Str} {sp : Sp} (a : AvG P w K mg base x j ps sp) (h : j ≤ k) : AvG P w K mg base x k ps sp := by
  obtain ⟨f, fd, F, m, kp, b, b2⟩ := a
  exact ⟨f, fd, ⟨F.len, fun A outer s H args us vs Q E hg hr => F.go A outer s H args us vs Q E hg (hr.mono h)⟩, m, kp, b, b2⟩
theorem avG_mk {g x : Str} {st : Stmt} {N ps : List Str} {k : Nat} {sp : Sp} (h : Here K mg g x st) (S : FnScope N ps (defScope st))
    (hb : ∀ (kV doc pm : Value) (an : Option Addr) (cdv ct : Value) (us : List Value), us.length = ps.length → bindArgs (PySem.W.fnOf x x (defArgs st) (defBody st) (defScope st) .none kV doc pm an cdv ct) ⟨us, []⟩ = pure (ps.zip us))
    (len : ∀ vs H Q E, sp vs H Q E → vs.length = ps.length)
    (body : ∀ (f : Addr) (cdv : Value) (A : Around) (outer : List Env) (s : Shared) (H : Hp) (vs : List V) (Q : VK) (E : XK), A.guards = some [] → Room k (A.deeper (envOfC x (defScope st) s.heap.objs.size f cdv)) → sp vs H Q E →
      ∃ t, PSs (cxOf CX0 P w K mg base N x (defScope st) f cdv A outer s H E).nox (defBody st) t ∧ t { nx := fun _ H' => Q .non H', rt := Q } (start N vs) H) : AvG P w K mg base g (k + 1) ps sp := by
  obtain ⟨f, fd, F, m⟩ := h
  refine ⟨f, fd, ⟨len, fun A outer s H args us vs Q E hg hr e0 hbind r hsp => ?_⟩, m, F.kp, F.bindsN hb, F.bindsA hb⟩
  obtain ⟨oc, od, dV, kV, doc, pm, an, cdv, ct, osl, rfl, lk, hcd, _, _⟩ := F.ex
  refine StX.run_bnd (G := fun xs H2 => xs = vs ∧ H2 = H) lk hcd S hr e0 (fun A' Ex Q' hq => hbind _ _ _ _ ?_) fun s2 H2 xs hx hr' => ?_
  · exact hq s H vs us e0 Un.refl rfl (fun _ _ z => z) r (len _ _ _ _ hsp) ⟨rfl, rfl⟩
  · obtain ⟨rfl, rfl⟩ := hx
    obtain ⟨t, ht, q⟩ := body f cdv A outer s2 H2 xs Q E hg hr' hsp
    exact ⟨t, ht.nox, q⟩
end
section
variable {X : Cx} {x : Str} {k : Nat} {ps : List Str} {sp : Sp} {p pos : Pos} {e : Expr} {es : List Expr} {t : TA}
theorem pe_callG (a : AvG X.prog X.w X.K X.mg X.base x k ps sp) (hgu : X.A.guards = some []) (hr : Room k X.A) (hg : Gl X x) (ha : PA X (e :: es) t) (hdb : (x == ("__debug__" : Str)) = false := by decide)
    (he : starEach (e :: es) X.env = (false, eval e X.env) :: starEach es X.env := by rfl) (hpl : (backTo pos (starEach es X.env)).any (·.1) = false := by rfl) :
    PE X (.Call (.Name x p) (e :: es) [] pos) (tCallV sp t) := by
  obtain ⟨f, fd, F, m, kp, b, _⟩ := a
  refine ⟨fun pins s σ H Q I h => ?_⟩
  refine wpAny_Call_Name_kw (ld_glob I hg m ?_ hdb)
  refine PySem.W.callWith_K (h₀ := X.base) I.ok.mod.kin kp (thn (ha.run pos pins s σ H _ I h) fun us s1 hq => ?_) he hpl
  obtain ⟨vs, H1, I1, r, q⟩ := hq
  refine ⟨I1.kIn, ?_⟩
  have hl : us.length = ps.length := by rw [← r.length]; exact F.len _ _ _ _ q
  have hb := b s1 us I1.kIn (by rw [List.append_nil]; exact hl)
  rw [List.append_nil] at hb
  refine wpAny_call (codeAny_mono (F.go X.A X.stack s1 H1 ⟨us, []⟩ us vs Q E0 hgu hr I1.env0 hb r q) fun res s' hres => ?_)
  cases res with
  | error er => exact False.elim hres
  | ok fl =>
    cases fl with
    | ret u => exact I1.after hres
    | next => exact False.elim hres
    | brk => exact False.elim hres
    | cont => exact False.elim hres
end
/-! ### the law's end -/
/-- from a heap in which at most the script is tracked -/
theorem law_at {P : Program} {w : World} {K : PySem.W.Frag} {mg mb : Str → Option Value} {k : Nat} {fa a : Addr} {fd : FuncData} {x : Str} {sp : Sp} {s₁ : Shared} {vs : List Value}
    (KX : K.In s₁.heap) (hns : s₁.heap.Ns mainGlobals mg) (hb : s₁.heap.Ns builtinsNs mb) (hbb : ∀ x : Str, x ≠ "__name__" → mb x = bootBuiltins x) (hlim : s₁.heap.NoLimit) (hgen : s₁.gens = #[])
    (ha : s₁.heap.get? a = some { cls := .type "list", data := .seq vs.toArray }) (hr : Room k callerA)
    (F : ∀ base : Heap, K.In base → base.Ns mainGlobals mg → FnG P w K mg base k fa fd [x] sp) (hbind : ∀ (s : Shared) (u : Value), BindsTo s fd ⟨[u], []⟩ [(x, u)])
    (H : Hp) (hsp : sp [.ref a] H (fun v _ => v = .bl true) E0) (hok : HOk P w H s₁.heap) (honly : ∀ b, H b ≠ none → b = a ∧ ∃ o xs, H b = some (.frz o (.lst xs))) (hK : H a ≠ none → K.lookup a = none) :
    codeAny (model P w) callerA (.call (.ref fa) ⟨[.ref a], []⟩) (fun r s' => r = .ok (.ret (.bool true)) ∧ OldK s₁.heap s'.heap ∧ s'.os = s₁.os ∧ AllBare s'.gens) s₁ := by
  -- what is a dict, and what K holds, isn't tracked
  have freeD : ∀ (b : Addr) (o : Obj) (es : Array DictEntry) (ep : Nat), s₁.heap.get? b = some o → o.data = .dict es ep → H b = none := by
    intro b o es ep e1 e2
    cases q : H b with
    | none => rfl
    | some u =>
      obtain ⟨eb, _⟩ := honly b (by rw [q]; intro z; cases z)
      rw [eb, ha] at e1
      cases e1
      cases e2
  have freeK : ∀ (b : Addr) (o : Obj), K.lookup b = some o → H b = none := by
    intro b o e1
    cases q : H b with
    | none => rfl
    | some u =>
      have hne : H b ≠ none := by rw [q]; intro z; cases z
      obtain ⟨eb, _⟩ := honly b hne
      rw [eb] at hne e1
      rw [hK hne] at e1
      cases e1
  have ns_of : ∀ (b : Addr) (m : Str → Option Value), s₁.heap.Ns b m → (hidT s₁.heap H).Ns b m := by
    intro b m hm
    obtain ⟨o, es, ep, e1, e2, e3⟩ := hm
    exact ⟨o, es, ep, hidT_get e1 (freeD b o es ep e1 e2), e2, e3⟩
  have kin : K.In (hidT s₁.heap H) := fun b o e => hidT_get (KX b o e) (freeK b o e)
  have md : Mod K mg (hidT s₁.heap H) := by
    obtain ⟨mc, l1, l2⟩ := hlim
    exact ⟨kin, ns_of _ _ hns, ⟨mb, ns_of _ _ hb, hbb⟩, ⟨mc, ns_of _ _ l1, l2⟩⟩
  have nofr : ∀ b ∈ frs ([] : List Env), H b = none := fun b z => by cases z
  have env : Env0 P w K mg (hidT s₁.heap H) callerA [] s₁ H := ⟨rfl, md, fun b o e => of_hidT e, Nat.le_of_eq (hidT_size _ _), trivial, nofr, hok, .of_eq hgen⟩
  refine codeAny_mono ((F _ kin (ns_of _ _ hns)).go callerA [] s₁ H ⟨[.ref a], []⟩ [.ref a] [.ref a] _ E0 rfl hr env (hbind s₁ (.ref a)) (.cons rfl .nil) hsp) fun res s' hres => ?_
  cases res with
  | error er => exact False.elim hres
  | ok fl =>
    cases fl with
    | next => exact False.elim hres
    | brk => exact False.elim hres
    | cont => exact False.elim hres
    | ret u =>
      obtain ⟨v, H', hos, bare, un, hok', rv, rfl⟩ := hres
      obtain rfl : u = Value.bool true := rv
      refine ⟨rfl, OldK.of_keep fun b o e => ?_, hos, bare⟩
      cases q : H b with
      | none => exact un.keep b o e q (fun z => by cases z) (fun z => by cases z)
      | some ho =>
        obtain ⟨_, ob, xs, e2⟩ := honly b (by rw [q]; intro z; cases z)
        have k1 := (hok b _ e2).1
        have k2 := (hok' b _ (un.frzs b ob _ e2)).1
        rw [e] at k1
        cases k1
        exact k2
theorem walk_ofG {l : PySem.W.OpenLaw} {n k : Nat} {q : Program} {loose : List Str} {XP : (Str → Option Value) → Heap → Prop} {YP : World → Heap → Prop} {d : DefRec} {x : Str}
    (hn : l.most = some n) (hn2 : n ≤ sizeLine) (hdf : d.params.defaults = []) (hr : Room k callerA)
    (F : ∀ (w : World) (mg : Str → Option Value) (fa : Addr) (h : Heap), YP w h → h.Ns mainGlobals mg → mg d.name = some (.ref fa) →
      ∃ (K : PySem.W.Frag) (fd : FuncData) (sp : Sp), K.In h ∧ (∀ (s : Shared) (u : Value), BindsTo s fd ⟨[u], []⟩ [(x, u)]) ∧
        (∀ (H : Hp) (a : Addr) (ns : List Int), ns.length ≤ n → SqL K H a (ns.map V.int) → sp [.ref a] H (fun v _ => v = .bl true) E0) ∧
        ∀ base : Heap, K.In base → base.Ns mainGlobals mg → FnG l.prog w K mg base k fa fd [x] sp) :
    PySem.W.WalkO q loose XP YP l.row.toRowW d [] (fun f vs => PySem.call f vs) := by
  refine Att.attach_call hn hdf fun w s₀ s₁ mg mb fa o pm cd doc a vs ns G Y ho hd hcd hmg hobj hints hlen hgen => ?_
  obtain ⟨K, fd, sp, KX, hb, hsp, hF⟩ := F w mg fa _ Y G.T.g hmg
  have rv := vals_ints hints
  have lz : (ns.map V.int).length ≤ sizeLine := by rw [List.length_map]; exact Nat.le_trans hlen hn2
  cases hk : K.lookup a with
  | some ob =>
    have e := KX a ob hk
    rw [hobj] at e
    cases e
    refine law_at KX G.T.g G.T.b G.T.builtins G.T.nolimit hgen hobj hr hF hb (fun _ => none) (hsp _ a ns hlen ?_) (fun b u z => by cases z) (fun b z => absurd rfl z) (fun z => absurd rfl z)
    refine .inr ⟨_, vs.toArray, _, hk, rfl, rfl, rfl, ?_, by simpa using rv⟩
    rw [List.size_toArray, hints.length]
    exact Nat.le_trans hlen hn2
  | none =>
    let H1 : Hp := upd (fun _ => none) a (.frz { cls := .type "list", data := .seq vs.toArray } (.lst (ns.map V.int)))
    have h1 : H1 a = some (.frz { cls := .type "list", data := .seq vs.toArray } (.lst (ns.map V.int))) := upd_same
    have h2 : ∀ b, b ≠ a → H1 b = none := fun b hb => upd_ne hb
    refine law_at KX G.T.g G.T.b G.T.builtins G.T.nolimit hgen hobj hr hF hb H1 (hsp H1 a ns hlen (.inl (.inr ⟨_, h1⟩))) (fun b u e => ?_) (fun b hb => ?_) (fun _ => hk)
    · by_cases eb : b = a
      · subst eb
        rw [h1] at e
        cases e
        exact ⟨hobj, lz, vs, _, rv, hobj⟩
      · rw [h2 b eb] at e
        cases e
    · by_cases eb : b = a
      · exact ⟨eb, _, _, by rw [eb]; exact h1⟩
      · exact absurd (h2 b eb) hb
end FwR
end
section
set_option Elab.async false
set_option linter.all false
set_option maxRecDepth 100000
set_option maxHeartbeats 4000000
/-! Ground of the walk: what names stand for, texts of signs, the ways of a demand, growing heaps, comprehensions. -/
namespace FwW
open PySem PySem.Spec PyProof.Rows L2 FwR FwH
section
variable {c A B : Prop} [Decidable c]
theorem dT (h : c) (k : A) : if decide c = true then A else B := by rw [if_pos (decide_eq_true h)]; exact k
theorem dF (h : ¬ c) (k : B) : if decide c = true then A else B := by rw [if_neg (fun z => h (of_decide_eq_true z))]; exact k
theorem d2 (h1 : c → A) (h2 : ¬ c → B) : if decide c = true then A else B := by
  by_cases h : c
  · exact dT h (h1 h)
  · exact dF h (h2 h)
end
section
variable {A B : Prop} {i j : Int}
theorem eT (h : i = j) (k : A) : if decide (V.int i = V.int j) = true then A else B := dT (congrArg V.int h) k
theorem eF (h : i ≠ j) (k : B) : if decide (V.int i = V.int j) = true then A else B := dF (fun z => h (V.int.inj z)) k
theorem nT (h : i ≠ j) (k : A) : if (!decide (V.int i = V.int j)) = true then A else B := by rw [decide_eq_false fun z => h (V.int.inj z)]; exact iteT k
theorem nF (h : i = j) (k : B) : if (!decide (V.int i = V.int j)) = true then A else B := by rw [decide_eq_true (congrArg V.int h)]; exact iteF k
theorem ntT {c : Prop} [Decidable c] (h : ¬ c) (k : A) : if (!decide c) = true then A else B := by rw [decide_eq_false h]; exact iteT k
theorem ntF {c : Prop} [Decidable c] (h : c) (k : B) : if (!decide c) = true then A else B := by rw [decide_eq_true h]; exact iteF k
end
section
variable {A B : Prop} {i : Int} {z : Str} {a : Addr}
theorem niT (k : A) : if (!decide (V.int i = V.non)) = true then A else B := k
theorem nsT (k : A) : if (!decide (V.str z = V.non)) = true then A else B := k
theorem nrT (k : A) : if (!decide (V.ref a = V.non)) = true then A else B := k
theorem nnF (k : B) : if (!decide (V.non = V.non)) = true then A else B := k
theorem iiF (k : B) : if decide (V.int i = V.non) = true then A else B := k
theorem isF (k : B) : if decide (V.str z = V.non) = true then A else B := k
theorem irF (k : B) : if decide (V.ref a = V.non) = true then A else B := k
theorem nnT (k : A) : if decide (V.non = V.non) = true then A else B := k
end
section
variable {b : Bool} {A B : Prop}
theorem bT (h : b = true) (k : A) : if b = true then A else B := by rw [if_pos h]; exact k
theorem bF (h : b = false) (k : B) : if b = true then A else B := by rw [if_neg (by rw [h]; decide)]; exact k
theorem b2 (h1 : b = true → A) (h2 : b = false → B) : if b = true then A else B := by
  cases hb : b with
  | true => exact h1 hb
  | false => exact h2 hb
end
/-! ### growing heaps -/
/-- all that was tracked is tracked, as it was -/
def Ext (H H' : Hp) : Prop := ∀ a o, H a = some o → H' a = some o
theorem Ext.refl {H : Hp} : Ext H H := fun _ _ h => h
theorem Ext.trans {H H1 H2 : Hp} (e : Ext H H1) (f : Ext H1 H2) : Ext H H2 := fun a o h => f a o (e a o h)
theorem Ext.new {H : Hp} {p : Addr} {o : HO} (h : H p = none) : Ext H (upd H p o) := fun a u e => by
  by_cases hb : a = p
  · subst hb; rw [h] at e; cases e
  · rw [upd_ne hb]; exact e
theorem Ext.sqT {K : PySem.W.Frag} {H H' : Hp} {a : Addr} {xs : List V} (e : Ext H H') (h : SqT K H a xs) : SqT K H' a xs := by
  rcases h with (h | ⟨o, h⟩) | h
  · exact .inl (.inl (e _ _ h))
  · exact .inl (.inr ⟨o, e _ _ h⟩)
  · exact .inr h
theorem Ext.sqL {K : PySem.W.Frag} {H H' : Hp} {a : Addr} {xs : List V} (e : Ext H H') (h : SqL K H a xs) : SqL K H' a xs := by
  rcases h with (h | ⟨o, h⟩) | h
  · exact .inl (.inl (e _ _ h))
  · exact .inl (.inr ⟨o, e _ _ h⟩)
  · exact .inr h
theorem Ext.none {H H' : Hp} {a : Addr} (e : Ext H H') (h : H' a = none) : H a = Option.none := by
  cases q : H a with
  | none => rfl
  | some o => rw [e _ _ q] at h; cases h
theorem sqT_new {K : PySem.W.Frag} {H : Hp} {p : Addr} {xs : List V} : SqT K (upd H p (.tup xs)) p xs := .inl (.inl upd_same)
theorem sqL_new {K : PySem.W.Frag} {H : Hp} {p : Addr} {xs : List V} : SqL K (upd H p (.lst xs)) p xs := .inl (.inl upd_same)
theorem sqT_of {K : PySem.W.Frag} {H : Hp} {p : Addr} {xs : List V} (h : H p = some (.tup xs)) : SqT K H p xs := .inl (.inl h)
theorem sqL_of {K : PySem.W.Frag} {H : Hp} {p : Addr} {xs : List V} (h : H p = some (.lst xs)) : SqL K H p xs := .inl (.inl h)
theorem pe_globI {X : Cx} {x : Str} {i : Int} {pos : Pos} (hg : Gl X x) (hm : ∃ t, X.mg x = some (.int i t)) (hd : (x == ("__debug__" : Str)) = false := by decide) : PE X (.Name x pos) (tC (.int i)) :=
  let ⟨t, h⟩ := hm
  pe_glob hg h ⟨t, rfl⟩ hd
theorem pe_globR {X : Cx} {x : Str} {a : Addr} {pos : Pos} (hg : Gl X x) (hm : X.mg x = some (.ref a)) (hd : (x == ("__debug__" : Str)) = false := by decide) : PE X (.Name x pos) (tC (.ref a)) :=
  pe_glob hg hm rfl hd
/-! ### rules of the layer, said over a K by name (within comprehensions) -/
section
variable {X : Cx} {K : PySem.W.Frag}
def lenR (K : PySem.W.Frag) : List V → Hp → VK → Prop := fun xs H Q => ∃ x n, xs = [x] ∧ LenV K x H n ∧ Q (.int (n : Nat)) H
theorem call_lenK (hK : X.K = K) : CallR X (.builtin "len") (lenR K) := by subst hK; exact call_len
def inR (K : PySem.W.Frag) : R2 := fun x y H Q => ∃ p xs, y = .ref p ∧ (SqL K H p xs ∨ SqT K H p xs) ∧ flatV x = true ∧ xs.all flatV = true ∧ Q (.bl (inV x xs)) H
def notInR (K : PySem.W.Frag) : R2 := fun x y H Q => ∃ p xs, y = .ref p ∧ (SqL K H p xs ∨ SqT K H p xs) ∧ flatV x = true ∧ xs.all flatV = true ∧ Q (.bl (!inV x xs)) H
theorem op_inK (hK : X.K = K) : OpR X (compareOp .In) (inR K) := by subst hK; exact op_in_seq
theorem op_notInK (hK : X.K = K) : OpR X (compareOp .NotIn) (notInR K) := by subst hK; exact op_notIn_seq
theorem ix_tupK (hK : X.K = K) : IxR X (rIxT K) := by subst hK; exact ix_tup
theorem ix_listK (hK : X.K = K) : IxR X (rIxL K) := by subst hK; exact ix_list
theorem sl_tupK (hK : X.K = K) : SlR X (rSlA K) := by subst hK; exact sl_tupA
theorem sl_listK (hK : X.K = K) : SlR X (rSlL K) := by subst hK; exact sl_list
theorem op_catK (hK : X.K = K) : OpR X (binaryOp .Add) (rCatA K) := by subst hK; exact op_catA
theorem op_eqK (hK : X.K = K) (hu : X.A.units + 64 < cLine) : OpR X (compareOp .Eq) (rEqD K) := by subst hK; exact op_eqD hu
theorem op_neK (hK : X.K = K) (hu : X.A.units + 64 < cLine) : OpR X (compareOp .NotEq) (rNeD K) := by subst hK; exact op_neD hu
theorem pi_listK {tg l : Expr} {tl : TE} (hK : X.K = K) (hl : PE X l tl) : PI X tg l (iList K tl) := by subst hK; exact pi_list hl
theorem pi_tupK {tg l : Expr} {tl : TE} (hK : X.K = K) (hl : PE X l tl) : PI X tg l (iTup K tl) := by subst hK; exact pi_tup hl
theorem pe_fldK {e : Expr} {ta : TE} {f : Str} {pos : Pos} (hK : X.K = K) (he : PE X e ta) (hb : attributeBase e f X.env (eval e X.env) = eval e X.env) : PE X (.Attribute e f pos) (tFld K ta f) := by subst hK; exact pe_fld he hb
theorem sum_K (hK : X.K = K) (hc : X.calm = true) : CallR X (.builtin "sum") (rSum K) := by subst hK; exact cr_sum hc
theorem all_K (hK : X.K = K) (hc : X.calm = true) : CallR X (.builtin "all") (rAll K) := by subst hK; exact cr_all hc
theorem any_K (hK : X.K = K) (hc : X.calm = true) : CallR X (.builtin "any") (rAny K) := by subst hK; exact cr_any hc
theorem isi_K (hK : X.K = K) : CallR X (.builtin "isinstance") (rIsi K) := by subst hK; exact call_isi
theorem pg_tupK {es : List Expr} {k : Nat} {t : TGs} {n : Nat} {pos : Pos} (hK : X.K = K) (hc : X.calm = true) (h : PGs X es t)
    (hn : (assignEach es X.env).length = n := by rfl) (hst : (assignEach es X.env).findIdx? (·.1) = Option.none := by rfl) : PG X (.Tuple es k pos) (gTup K n t) := by subst hK; exact pg_tup hc h hn hst
theorem kit_ii : PySem.W.kitOne K (.type "int") (.type "int") = some true := kit_ty (by decide +kernel)
theorem kit_ib : PySem.W.kitOne K (.type "int") (.type "bool") = some false := kit_ty (by decide +kernel)
theorem kit_ss : PySem.W.kitOne K (.type "str") (.type "str") = some true := kit_ty (by decide +kernel)
theorem kit_bb : PySem.W.kitOne K (.type "bool") (.type "bool") = some true := kit_ty (by decide +kernel)
theorem kit_tt : PySem.W.kitOne K (.type "tuple") (.type "tuple") = some true := kit_ty (by decide +kernel)
theorem ty_t {H : Hp} {a : Addr} {xs : List V} (h : SqT K H a xs) : TyX K H (.ref a) (.type "tuple") := by
  rcases h with (h | ⟨o, h⟩) | ⟨o, its, n, h, hc, _⟩
  · exact .base (.tup h)
  · exact .fTuple h
  · exact .kTuple h hc
def tupR (K : PySem.W.Frag) : List V → Hp → VK → Prop := fun xs H Q => ∃ p ys, xs = [.ref p] ∧ ((SqL K H p ys ∧ ∀ l, H l = Option.none → Q (.ref l) (upd H l (.tup ys))) ∨ (SqT K H p ys ∧ Q (.ref p) H))
theorem tup_K (hK : X.K = K) : CallR X (.type "tuple") (tupR K) := by subst hK; exact call_tuple_of
def joinR (K : PySem.W.Frag) : V → List V → Hp → VK → Prop := fun x xs H Q => ∃ a p, ∃ ys : List Str, x = .str a ∧ xs = [.ref p] ∧ (SqL K H p (ys.map V.str) ∨ SqT K H p (ys.map V.str)) ∧
      (ys.map (·.length)).sum + ys.length * a.length ≤ 16777216 ∧ Q (.str (Txt.join a ys)) H
theorem pe_joinK {o e : Expr} {to te : TE} {apos pos : Pos} (hK : X.K = K) (ho : PE X o to) (he : PE X e te) (hs : starEach [e] X.env = [(false, eval e X.env)] := by rfl) (hbase : attributeBase o "join" X.env (eval o X.env) = eval o X.env := by rfl) (hline : (apos.endLine == pos.line) = true := by rfl) :
    PE X (.Call (.Attribute o "join" apos) [e] [] pos) (tM1 (joinR K) to te) := by subst hK; exact pe_join ho he hs hbase hline
end
/-! ### texts of signs -/
open Fw
def sg (b : Bool) : Nat := if b then 49 else 48
def tx (l : Bits) : Str := ⟨(l.map sg).toArray⟩
theorem sg_inj : ∀ {a b : Bool}, sg a = sg b → a = b := by decide
theorem tx_cps (l : Bits) : (tx l).cps.toList = l.map sg := rfl
theorem tx_len (l : Bits) : (tx l).length = l.length := by
  show (l.map sg).toArray.size = _
  rw [List.size_toArray, List.length_map]
theorem str_ext {a b : Str} (h : a.cps.toList = b.cps.toList) : a = b := by
  cases a; cases b
  exact congrArg Str.mk (Array.ext' h)
theorem str_cat (a b : Str) : (a ++ b).cps.toList = a.cps.toList ++ b.cps.toList := by
  show (a.cps ++ b.cps).toList = _
  rw [Array.toList_append]
theorem short {n : Nat} (h : n ≤ 100) : n ≤ sizeLine := by rw [sizeLine_eq]; omega
theorem scS {a b : Str} : scal (.str a) (.str b) = true := rfl
theorem scI {a b : Int} : scal (.int a) (.int b) = true := rfl
theorem scNI {b : Int} : scal .non (.int b) = true := rfl
theorem scIN {b : Int} : scal (.int b) .non = true := rfl
theorem scB {a b : Bool} : scal (.bl a) (.bl b) = true := rfl
theorem sg_one (b : Bool) : decide (V.str ⟨#[sg b]⟩ = V.str "1") = b := by cases b <;> decide
theorem sg_zero (b : Bool) : decide (V.str ⟨#[sg b]⟩ = V.str "0") = !b := by cases b <;> decide
theorem lenTx {K : PySem.W.Frag} {H : Hp} {l : Bits} (h : l.length ≤ sizeLine) : LenV K (.str (tx l)) H l.length := ⟨by rw [tx_len]; exact h, (tx_len l).symm⟩
theorem lenT {K : PySem.W.Frag} {H : Hp} {p : Addr} {xs : List V} (h : SqT K H p xs) : LenV K (.ref p) H xs.length := .inr ⟨xs, h, rfl⟩
theorem lenL {K : PySem.W.Frag} {H : Hp} {p : Addr} {xs : List V} (h : SqL K H p xs) : LenV K (.ref p) H xs.length := .inl ⟨xs, h, rfl⟩
theorem tx_app (l m : Bits) : tx l ++ tx m = tx (l ++ m) := str_ext (by rw [str_cat, tx_cps, tx_cps, tx_cps, List.map_append])
theorem map_sg_inj : ∀ {l m : Bits}, l.map sg = m.map sg → l = m
  | [], [], _ => rfl
  | [], _ :: _, h => by cases h
  | _ :: _, [], h => by cases h
  | a :: l, b :: m, h => by
    rw [List.map_cons, List.map_cons, List.cons.injEq] at h
    rw [sg_inj h.1, map_sg_inj h.2]
theorem tx_inj {l m : Bits} (h : tx l = tx m) : l = m := map_sg_inj (congrArg (fun z : Str => z.cps.toList) h)
theorem tx1 : ("1" : Str) = tx [true] := by decide
theorem tx0 : ("0" : Str) = tx [false] := by decide
theorem txE : ("" : Str) = tx [] := by decide
theorem tx_dec (l m : Bits) : decide (V.str (tx l) = V.str (tx m)) = decide (l = m) := by
  by_cases h : l = m
  · rw [decide_eq_true h, h, decide_eq_true rfl]
  · rw [decide_eq_false h, decide_eq_false fun z => h (tx_inj (V.str.inj z))]
theorem sign_dec (b c : Bool) : decide (V.str ⟨#[sg b]⟩ = V.str (tx [c])) = (b == c) := by cases b <;> cases c <;> decide
theorem count1 (l : Bits) : Txt.count (tx l) "1" = ones l := by
  rw [show ("1" : Str) = ⟨#[49]⟩ by decide, count_cnt, tx_cps]
  induction l with
  | nil => rfl
  | cons b t ih =>
    rw [List.map_cons, cnt_cons, ih]
    cases b
    · show (if (48 : Nat) = 49 then (1 : Int) else 0) + _ = ((0 + ones t : Nat) : Int)
      rw [if_neg (by decide)]; push_cast; omega
    · show (if (49 : Nat) = 49 then (1 : Int) else 0) + _ = ((1 + ones t : Nat) : Int)
      rw [if_pos rfl]; push_cast; omega
theorem count0 (l : Bits) : Txt.count (tx l) "0" = ((l.length - ones l : Nat) : Int) := by
  rw [show ("0" : Str) = ⟨#[48]⟩ by decide, count_cnt, tx_cps]
  induction l with
  | nil => rfl
  | cons b t ih =>
    have := ones_le t
    rw [List.map_cons, cnt_cons, ih]
    cases b
    · show (if (48 : Nat) = 48 then (1 : Int) else 0) + _ = ((t.length + 1 - (0 + ones t) : Nat) : Int)
      rw [if_pos rfl]; omega
    · show (if (49 : Nat) = 48 then (1 : Int) else 0) + _ = ((t.length + 1 - (1 + ones t) : Nat) : Int)
      rw [if_neg (by decide)]; omega
theorem cut_from (l : Bits) (k : Nat) : cutS (tx l) (some (k : Int)) none = tx (l.drop k) := by
  refine str_ext ?_
  show (((tx l).cps.toList.drop (HT.sIx (tx l).length 0 (some (k : Int)))).take (HT.sIx (tx l).length (tx l).length none - HT.sIx (tx l).length 0 (some (k : Int)))) = (l.drop k).map sg
  rw [HT.sIx_none, HT.sIx_nat, tx_len, tx_cps, List.map_drop]
  by_cases h : k ≤ l.length
  · rw [Nat.min_eq_left h]
    exact List.take_of_length_le (by rw [List.length_drop, List.length_map]; omega)
  · have e1 : min k l.length = l.length := by omega
    rw [e1, Nat.sub_self, List.take_zero, List.drop_eq_nil_of_le (by rw [List.length_map]; omega)]
theorem cut_to (l : Bits) (k : Nat) : cutS (tx l) none (some (k : Int)) = tx (l.take k) := by
  refine str_ext ?_
  show (((tx l).cps.toList.drop (HT.sIx (tx l).length 0 none)).take (HT.sIx (tx l).length (tx l).length (some (k : Int)) - HT.sIx (tx l).length 0 none)) = (l.take k).map sg
  rw [HT.sIx_none, HT.sIx_nat, tx_len, tx_cps, List.map_take, List.drop_zero, Nat.sub_zero]
  by_cases h : k ≤ l.length
  · rw [Nat.min_eq_left h]
  · rw [Nat.min_eq_right (by omega), List.take_of_length_le (by rw [List.length_map]; omega), List.take_of_length_le (by rw [List.length_map]; omega)]
theorem tx_ix (l : Bits) (i : Nat) : (tx l).cps[i]? = (l[i]?).map sg := by
  show (l.map sg).toArray[i]? = _
  rw [List.getElem?_toArray, List.getElem?_map]
theorem starts_tx (l m : Bits) : Txt.startswith (tx l) (tx m) = decide (l.take m.length = m) := by
  show (decide (0 + (tx m).length ≤ (tx l).length) && ((tx l).cps.extract 0 (0 + (tx m).length) == (tx m).cps)) = _
  rw [tx_len, tx_len, Nat.zero_add]
  have e : ((tx l).cps.extract 0 m.length).toList = (l.take m.length).map sg := by
    rw [Array.toList_extract, tx_cps, List.map_take]
    simp
  have e2 : ((tx l).cps.extract 0 m.length == (tx m).cps) = decide (l.take m.length = m) := by
    by_cases h : l.take m.length = m
    · rw [decide_eq_true h, beq_iff_eq]
      refine Array.ext' ?_
      rw [e, h]; rfl
    · rw [decide_eq_false h, beq_eq_false_iff_ne]
      intro z
      refine h (map_sg_inj ?_)
      rw [← e, z]; rfl
  rw [e2]
  by_cases h : l.take m.length = m
  · rw [decide_eq_true h, Bool.and_true, decide_eq_true_iff]
    have := congrArg List.length h
    rw [List.length_take] at this
    omega
  · rw [decide_eq_false h, Bool.and_false]
theorem join_tx : ∀ ls : List Bits, Txt.join "" (ls.map tx) = tx ls.flatten := by
  intro ls
  rw [eq_of_beq (join_plain_closes "" (ls.map tx))]
  induction ls with
  | nil => show Str.join "" [] = tx []; decide
  | cons l r ih =>
    cases r with
    | nil =>
      show tx l = tx (l ++ [])
      rw [List.append_nil]
    | cons m r =>
      show tx l ++ "" ++ Str.join "" ((m :: r).map tx) = tx (l ++ (m :: r).flatten)
      rw [ih, txE, tx_app, tx_app, List.append_nil]
/-! ### the ways of a demand -/
def wsL (x : Dm) : List Str := (if x.a then [("00" : Str)] else []) ++ ((if x.b then [("01" : Str)] else []) ++ ((if x.c then [("10" : Str)] else []) ++ (if x.d then [("11" : Str)] else [])))
def ws (x : Dm) : List V := (wsL x).map V.str
/-- a stands for the tuple of a demand's ways -/
def Wt (K : PySem.W.Frag) (H : Hp) (a : Addr) (x : Dm) : Prop := SqT K H a (ws x)
theorem Ext.wt {K : PySem.W.Frag} {H H' : Hp} {a : Addr} {x : Dm} (e : Ext H H') (h : Wt K H a x) : Wt K H' a x := e.sqT h
theorem ws_len (x : Dm) : (ws x).length = x.apart + x.same := by obtain ⟨a, b, c, d⟩ := x; cases a <;> cases b <;> cases c <;> cases d <;> decide
theorem ws_flat (x : Dm) : (ws x).all flatV = true := by obtain ⟨a, b, c, d⟩ := x; cases a <;> cases b <;> cases c <;> cases d <;> decide
theorem in00 (x : Dm) : inV (.str "00") (ws x) = x.a := by obtain ⟨a, b, c, d⟩ := x; cases a <;> cases b <;> cases c <;> cases d <;> decide
theorem in01 (x : Dm) : inV (.str "01") (ws x) = x.b := by obtain ⟨a, b, c, d⟩ := x; cases a <;> cases b <;> cases c <;> cases d <;> decide
theorem in10 (x : Dm) : inV (.str "10") (ws x) = x.c := by obtain ⟨a, b, c, d⟩ := x; cases a <;> cases b <;> cases c <;> cases d <;> decide
theorem in11 (x : Dm) : inV (.str "11") (ws x) = x.d := by obtain ⟨a, b, c, d⟩ := x; cases a <;> cases b <;> cases c <;> cases d <;> decide
def full : Dm := ⟨true, true, true, true⟩
/-! ### names of the module -/
structure Tx (w : World) (K : PySem.W.Frag) (mg : Str → Option Value) : Prop where
  range : mg "range" = none
  len : mg "len" = none
  min : mg "min" = none
  max : mg "max" = none
  sum : mg "sum" = none
  all : mg "all" = none
  any : mg "any" = none
  abs : mg "abs" = none
  isinstance : mg "isinstance" = none
  enumerate : mg "enumerate" = none
  repr : mg "repr" = none
  int_ : mg "int" = none
  bool_ : mg "bool" = none
  str_ : mg "str" = none
  tuple_ : mg "tuple" = none
  list_ : mg "list" = none
  MOST_SWITCHES : ∃ t, mg "MOST_SWITCHES" = some (.int 64 t)
  MOST_TRIALS : ∃ t, mg "MOST_TRIALS" = some (.int 64 t)
  MOST_ASKED_demands : ∃ t, mg "MOST_ASKED_demands" = some (.int (10 ^ 40) t)
  MOST_ASKED_checker : ∃ t, mg "MOST_ASKED_checker" = some (.int (10 ^ 40) t)
  WAYS_values : mg "WAYS_values" = some (.ref (He.ga K "WAYS_values"))
  WAYS_checker : mg "WAYS_checker" = some (.ref (He.ga K "WAYS_checker"))
  SAME : mg "SAME" = some (.ref (He.ga K "SAME"))
  SIZES : mg "SIZES" = some (.ref (He.ga K "SIZES"))
  Demand : mg "Demand" = some (.ref (He.ga K "Demand"))
  Plan : mg "Plan" = some (.ref (He.ga K "Plan"))
  wv_ok : ∀ H, SqT K H (He.ga K "WAYS_values") (ws full)
  wc_ok : ∀ H, SqT K H (He.ga K "WAYS_checker") (ws full)
  same_ok : ∀ x : Dm, x.apart = 0 → KDct K w (He.ga K "SAME") (Txt.join " " (wsL x)) (.str (tx x.head))
  sizes : ∃ es n, KDict K w (He.ga K "SIZES") es n
  size_f : ∃ t, PySem.W.nsIn K (He.ga K "SIZES") "fewest" = some (some (.int 4 t))
  size_c : ∃ t, PySem.W.nsIn K (He.ga K "SIZES") "column" = some (some (.int 5 t))
theorem at_nat {α : Type} {xs : List α} {i : Nat} (h : i < xs.length) : atI xs (i : Int) = xs[i]? := by
  unfold atI ixN
  rw [if_pos (by omega), if_pos (by omega)]
  show xs[((i : Int)).toNat]? = _
  rw [Int.toNat_natCast]
theorem at_tx {l : Bits} {i : Nat} (h : i < l.length) : atI (tx l).cps.toList (i : Int) = some (sg l[i]) := by
  have e : (tx l).cps.toList = l.map sg := rfl
  rw [e, at_nat (by rw [List.length_map]; exact h), List.getElem?_map, List.getElem?_eq_getElem h]
  rfl
theorem take_next {xs : List V} {i : Nat} {v : V} (h : xs[i]? = some v) : xs.take (i + 1) = xs.take i ++ [v] := by
  rw [List.take_add_one, h]; rfl
theorem filter_next {f : V → Bool} {xs : List V} {i : Nat} {v : V} (h : xs[i]? = some v) : (xs.take (i + 1)).filter f = (xs.take i).filter f ++ (if f v = true then [v] else []) := by
  rw [take_next h, List.filter_append]
  congr 1
  by_cases hb : f v = true
  · rw [List.filter_cons_of_pos hb, if_pos hb]; rfl
  · rw [List.filter_cons_of_neg hb, if_neg hb]; rfl
theorem rgV_at {a b : Int} {i : Nat} {x : V} (h : (rgV a b)[i]? = some x) : x = .int (a + (i : Nat)) := by
  unfold rgV at h
  rw [List.getElem?_map] at h
  obtain ⟨c, hc, rfl⟩ := Option.map_eq_some_iff.mp h
  have hi : i < (b - a).toNat := by
    apply Decidable.byContradiction
    intro z
    rw [List.getElem?_eq_none (by rw [List.length_range]; omega)] at hc
    cases hc
  rw [List.getElem?_range hi] at hc
  cases hc
  rfl
/-! ### comprehensions that only add to the heap -/
theorem lc_pure {J : It} {n : Nat} {G : Hp → Prop} {Y : Nat → Hp → V → Hp → Prop} (w : Walk J n G Y) (acc : Nat → List V) {g : TG} {tt : TT} {te : TE} {vs : List Nat} {σ : L2.St} {H1 : Hp} {D : Addr} {Qd : Hp → Prop} (hD : H1 D = none) (h0 : acc 0 = [])
    (hG : ∀ H, Ext H1 H → G H) (hz : ∀ i, i < n → (acc i).length < sizeLine)
    (hs : ∀ i x H H', i < n → Ext H1 H → Y i H x H' → ∀ (Ky : V → Hp → Prop) (K0 : Hp → Prop), (∀ y H4, Ext H H4 → acc (i + 1) = acc i ++ [y] → Ky y H4) → (∀ H3, Ext H H3 → acc (i + 1) = acc i → K0 H3) →
      g x (wipe σ vs) H' fun σ2 H2 => wipe σ2 vs = wipe σ vs ∧ tt σ2 H2 fun b H3 => if b = true then te σ2 H3 Ky else K0 H3) (hd : ∀ H, Ext H1 H → H D = some (.lst (acc n)) → Qd H) :
    ∃ W : Nat → Nat → Hp → Prop, (∃ m, W 0 m (upd H1 D (.lst []))) ∧ ∀ i m H, W i m H →
      (J.stop i H ∧ Qd H) ∨ (J.go i H ∧ ∃ Nx : Hp → Prop, (∀ H', Nx H' → ∃ m', m' < m ∧ W (i + 1) m' H') ∧ ∀ x H', J.yld i H x H' → g x (wipe σ vs) H' fun σ2 H2 => wipe σ2 vs = wipe σ vs ∧ tt σ2 H2 fun b H3 =>
        if b = true then te σ2 H3 fun y H4 => ∃ acc, H4 D = some (.lst acc) ∧ acc.length < sizeLine ∧ Nx (upd H4 D (.lst (acc ++ [y]))) else Nx H3) := by
  have back : ∀ {H : Hp} {xs : List V}, Ext (upd H1 D (.lst xs)) H → Ext H1 H := fun {H xs} e => (Ext.new hD).trans e
  refine lc_it w (fun i H => Ext (upd H1 D (.lst (acc i))) H) (by rw [h0]; exact Ext.refl) (fun i H _ p => hG H (back p)) (fun i x H H' hi p y => ?_) (fun H p => hd H (back p) (p D _ upd_same))
  refine hs i x H H' hi (back p) y _ _ (fun y H4 e ea => ⟨acc i, e D _ (p D _ upd_same), hz i hi, ?_⟩) (fun H3 e ea => by rw [ea]; exact p.trans e)
  rw [ea]
  intro a o ha
  by_cases hb : a = D
  · subst hb; rw [upd_same] at ha ⊢; exact ha
  · rw [upd_ne hb] at ha ⊢
    exact e a o (p a o (by rw [upd_ne hb]; exact ha))
end FwW
end
section
set_option Elab.async false
set_option linter.all false
set_option maxRecDepth 100000
set_option maxHeartbeats 4000000
/-! What the certificates' tuples show: short texts. -/
namespace FwW
open PySem PySem.Spec PyProof.Rows L2 Fw
/-- data whose text is short: depth, weight -/
def Lf (n m : Nat) (d : PyData) : Prop := d.showable = true ∧ d.hasDict = false ∧ d.depth ≤ n ∧ d.leavesShort 41 = true ∧ d.weight ≤ m
theorem Lf.mono {n m n' m' : Nat} {d : PyData} (h : Lf n m d) (hn : n ≤ n') (hm : m ≤ m') : Lf n' m' d := ⟨h.1, h.2.1, by have := h.2.2.1; omega, h.2.2.2.1, by have := h.2.2.2.2; omega⟩
theorem lf_all {n m : Nat} : ∀ ds : List PyData, (∀ d ∈ ds, Lf n m d) → PyData.showableAll ds = true ∧ PyData.hasDictAll ds = false ∧ PyData.depthAll ds ≤ n ∧ PyData.leavesShortAll 41 ds = true ∧ PyData.weightAll ds ≤ (m + 1) * ds.length
  | [], _ => ⟨by simp only [PyData.showableAll], by simp only [PyData.hasDictAll], by simp only [PyData.depthAll]; omega, by simp only [PyData.leavesShortAll], by simp only [PyData.weightAll]; omega⟩
  | d :: ds, h => by
    obtain ⟨a1, a2, a3, a4, a5⟩ := h d List.mem_cons_self
    obtain ⟨b1, b2, b3, b4, b5⟩ := lf_all ds fun x hx => h x (List.mem_cons_of_mem _ hx)
    refine ⟨by simp only [PyData.showableAll, a1, b1, Bool.and_self], by simp only [PyData.hasDictAll, a2, b2, Bool.or_self], by simp only [PyData.depthAll]; omega, by simp only [PyData.leavesShortAll, a4, b4, Bool.and_self], ?_⟩
    simp only [PyData.weightAll, List.length_cons]
    rw [Nat.mul_add]
    omega
theorem lf_tup {n m : Nat} {ds : List PyData} (h : ∀ d ∈ ds, Lf n m d) : Lf (n + 1) ((m + 1) * ds.length) (.tuple ds) := by
  obtain ⟨b1, b2, b3, b4, b5⟩ := lf_all ds h
  exact ⟨by simp only [PyData.showable, b1], by simp only [PyData.hasDict, b2], by simp only [PyData.depth]; omega, by simp only [PyData.leavesShort, b4], by simp only [PyData.weight]; omega⟩
theorem lf_none : Lf 0 0 .none := ⟨by simp only [PyData.showable], by simp only [PyData.hasDict], by simp only [PyData.depth]; omega, by simp only [PyData.leavesShort], by simp only [PyData.weight]; omega⟩
theorem lf_nat {k : Nat} (h : k ≤ 10 ^ 40) : Lf 0 200 (.int (k : Nat)) := by
  have hlog : k.log2 < 134 := by
    by_cases h0 : k = 0
    · subst h0; decide
    · exact (Nat.log2_lt h0).mpr (Nat.lt_of_le_of_lt h (by decide))
  refine ⟨?_, by simp only [PyData.hasDict], by simp only [PyData.depth]; omega, ?_, ?_⟩
  · simp only [PyData.showable, decide_eq_true_eq]
    show k.log2 < 1920
    omega
  · simp only [PyData.leavesShort, decide_eq_true_eq]
    have h1 : (k : Int) < 10 ^ 41 := Int.lt_of_le_of_lt (show (k : Int) ≤ 10 ^ 40 by exact_mod_cast h) (by decide)
    exact toString_length_le (v := (k : Int)) (by omega) (by decide) h1
  · simp only [PyData.weight]
    have : (k : Int).natAbs.log2 = k.log2 := rfl
    split <;> omega
theorem lf_str {s : Str} {m : Nat} (h : s.length ≤ m) (hc : ∀ c ∈ s.cps.toList, c < 128) : Lf 0 m (.str s) := by
  refine ⟨by simp only [PyData.showable], by simp only [PyData.hasDict], by simp only [PyData.depth]; omega, ?_, ?_⟩
  · simp only [PyData.leavesShort, List.all_eq_true, decide_eq_true_eq]
    intro c hcm
    have := hc c hcm
    have e : (16 : Nat) ^ 8 = 4294967296 := by decide
    omega
  · simp only [PyData.weight]
    exact h
theorem lf_tx {l : Bits} (h : l.length ≤ 300) : Lf 0 300 (.str (tx l)) := lf_str (by rw [tx_len]; exact h) fun c hc => by
  obtain ⟨b, _, rfl⟩ := List.mem_map.mp (show c ∈ l.map sg from hc)
  cases b <;> decide
/-- what repr asks -/
def Rp (d : PyData) : Prop := d.showable = true ∧ d.hasDict = false ∧ d.depth ≤ 60 ∧ d.shown.length ≤ sizeLine
theorem Lf.rp {n m : Nat} {d : PyData} (h : Lf n m d) (hn : n ≤ 60) (hm : m ≤ 100000) : Rp d := by
  obtain ⟨a1, a2, a3, a4, a5⟩ := h
  refine ⟨a1, a2, by omega, ?_⟩
  have := PyData.shown_le 41 (by decide) d a4
  rw [sizeLine_eq]
  omega
/-- its text by a name -/
structure RpZ (d : PyData) (z : Str) : Prop where
  ok : Rp d
  eq : d.shown = z
theorem Rp.z {d : PyData} (h : Rp d) : ∃ z, RpZ d z := ⟨_, h, rfl⟩
end FwW
end
section
set_option Elab.async false
set_option linter.all false
set_option maxRecDepth 100000
set_option maxHeartbeats 4000000
/-! Methods, properties, classmethods, the making of instances: promises at addresses, and the classes of the text. -/
namespace FwW
open PySem PySem.Spec PyProof.Rows L2 FwR FwH Fw
/-- the def st stands at f -/
def HereM (K : PySem.W.Frag) (f : Addr) (x q : Str) (st : Stmt) (ds : List V) : Prop := ∃ fd, FunD K x q (defArgs st) (defBody st) (defScope st) ds [] f fd
/-- the def at f keeps sp; all its parameters are given -/
def Mv (P : Program) (w : World) (K : PySem.W.Frag) (mg : Str → Option Value) (base : Heap) (f : Addr) (k : Nat) (ps : List Str) (sp : Sp) : Prop := ∃ fd, FnOk P w K mg base CX0 k f fd ps sp ∧ Binds K fd ps []
section
variable {P : Program} {w : World} {K : PySem.W.Frag} {mg : Str → Option Value} {base : Heap}
theorem mv_mk {f : Addr} {x q : Str} {st : Stmt} {N ps : List Str} {k : Nat} {sp : Sp} (h : HereM K f x q st []) (S : FnScope N ps (defScope st))
    (hb : ∀ (kV doc pm : Value) (an : Option Addr) (cdv ct : Value) (us : List Value), us.length = ps.length → bindArgs (PySem.W.fnOf x q (defArgs st) (defBody st) (defScope st) .none kV doc pm an cdv ct) ⟨us, []⟩ = pure (ps.zip us))
    (len : ∀ vs H Q E, sp vs H Q E → vs.length = ps.length)
    (body : ∀ (cdv : Value) (A : Around) (outer : List Env) (s : Shared) (H : Hp) (vs : List V) (Q : VK) (E : XK), Room k (A.deeper (envOfC q (defScope st) s.heap.objs.size f cdv)) → sp vs H Q E →
      ∃ t, PSs (cxOf CX0 P w K mg base N q (defScope st) f cdv A outer s H E).nox (defBody st) t ∧ t { nx := fun _ H' => Q .non H', rt := Q } (start N vs) H) : Mv P w K mg base f (k + 1) ps sp := by
  obtain ⟨fd, F⟩ := h
  refine ⟨fd, F.ok S len fun cdv A outer s H vs Q E hr hsp => ?_, F.bindsN hb⟩
  obtain ⟨t, ht, q⟩ := body cdv A outer s H vs Q E hr hsp
  exact ⟨t, ht.nox, q⟩
theorem Mv.mono {f : Addr} {ps : List Str} {sp : Sp} {j k : Nat} (a : Mv P w K mg base f j ps sp) (h : j ≤ k) : Mv P w K mg base f k ps sp :=
  let ⟨fd, F, b⟩ := a
  ⟨fd, F.mono h, b⟩
theorem Mv.raw {f : Addr} {ps : List Str} {sp : Sp} {k : Nat} (a : Mv P w K mg base f k ps sp) : FnR P w K mg base CX0 k f sp := by
  obtain ⟨fd, F, b⟩ := a
  exact (F.raw b .nil).imp fun vs H Q E h => by rw [List.append_nil]; exact h
/-- def f(self, *ws) -/
theorem star_mk {f : Addr} {x q pv : Str} {st : Stmt} {N ps : List Str} {k : Nat} {sp : Sp} (h : HereM K f x q st []) (S : FnScope N (ps ++ [pv]) (defScope st))
    (hb : ∀ (kV doc pm : Value) (an : Option Addr) (cdv ct : Value) (us rest : List Value), us.length = ps.length → bindArgs (PySem.W.fnOf x q (defArgs st) (defBody st) (defScope st) .none kV doc pm an cdv ct) ⟨us ++ rest, []⟩ = (newTuple rest >>= fun t => pure (ps.zip us ++ [(pv, t)])))
    (body : ∀ (cdv : Value) (A : Around) (outer : List Env) (s : Shared) (H : Hp) (vs : List V) (Q : VK) (E : XK), Room k (A.deeper (envOfC q (defScope st) s.heap.objs.size f cdv)) → sp vs H Q E →
      ∃ t, PSs (cxOf CX0 P w K mg base N q (defScope st) f cdv A outer s H E).nox (defBody st) t ∧ t { nx := fun _ H' => Q .non H', rt := Q } (start N vs) H) :
    FnR P w K mg base CX0 (k + 1) f (fun vs H Q E => ∃ ws rest, vs = ws ++ rest ∧ ws.length = ps.length ∧ rest.length ≤ sizeLine ∧ ∀ p, H p = Option.none → sp (ws ++ [V.ref p]) (upd H p (.tup rest)) Q E) := by
  obtain ⟨fd, F⟩ := h
  obtain ⟨oc, od, dV, kV, doc, pm, an, cdv, ct, osl, rfl, lk, hcd, hD, _⟩ := F.ex
  obtain rfl : dV = Value.none := by
    rcases hD with ⟨_, e⟩ | ⟨e, _⟩
    · exact e
    · exact absurd rfl e
  refine StX.fn_star lk hcd S StX.cxUp_none (hb kV doc pm an cdv ct) fun A outer s H vs Q E hr hsp => ?_
  obtain ⟨t, ht, q⟩ := body cdv A outer s H vs Q E hr hsp
  exact ⟨t, ht.nox, q⟩
end
/-! ### rules -/
def tMethV (C : Addr) (m : Str) (sp : Sp) (ta : TE) (t : TA) : TE := fun σ H Q => ta σ H fun x H1 => ∃ a dx fs, x = .ref a ∧ H1 a = some (.ins C dx fs) ∧ fs.lookup m = Option.none ∧ t σ H1 fun vs H2 => sp (x :: vs) H2 Q E0
def tPropV (C : Addr) (sp : Sp) (ta : TE) : TE := fun σ H Q => ta σ H fun x H1 => ∃ a dx fs, x = .ref a ∧ H1 a = some (.ins C dx fs) ∧ sp [.ref a] H1 Q E0
def tCMethV (C : Addr) (sp : Sp) (t : TA) : TE := fun σ H Q => t σ H fun vs H2 => sp (.ref C :: vs) H2 Q E0
section
variable {X : Cx} {K : PySem.W.Frag} {k : Nat} {C f p : Addr} {m : Str} {ps : List Str} {sp : Sp} {e o : Expr} {es : List Expr} {apos pos : Pos} {ta : TE} {t : TA}
theorem pe_methV {pl : Sem Bool} (hK : X.K = K) (he : PE X o ta) (c : Cls K C) (hm : Meth K C m f) (M : Mv X.prog X.w K X.mg X.base f k ps sp) (hr : Room k X.A) (ha : PA X (e :: es) t)
    (hst : starEach (e :: es) X.env = (false, eval e X.env) :: starEach es X.env := by rfl) (hpl : (backTo pos (starEach es X.env)).any (·.1) = false := by rfl)
    (ht : eval (.Call (.Attribute o m apos) (e :: es) [] pos) X.env = (do
      let ov ← eval o X.env
      standAt apos.atName
      let (f, first) ← holding [ov] (getMethod ov m pl)
      callWith pos f first (backTo pos (starEach (e :: es) X.env)) (backToKw pos (keywordEach [] X.env))) := by rfl) :
    PE X (.Call (.Attribute o m apos) (e :: es) [] pos) (tMethV C m sp ta t) := by
  subst hK
  obtain ⟨fd, F, b⟩ := M
  have z := pe_meth (pl := pl) he c hm F hr b .nil (pass0 (X := X)) ha hst hpl ht
  refine ⟨fun pins s σ H Q I h => z.run pins s σ H Q I ?_⟩
  have e1 : ∀ x : V, (fun (vs : List V) (H2 : Hp) => sp (x :: (vs ++ [])) H2 Q E0) = fun vs H2 => sp (x :: vs) H2 Q E0 := fun x => by funext vs H2; rw [List.append_nil]
  show ta σ H fun x H1 => ∃ a dx fs, x = .ref a ∧ H1 a = some (.ins C dx fs) ∧ fs.lookup m = Option.none ∧ t σ H1 fun vs H2 => sp (x :: (vs ++ [])) H2 Q E0
  have e2 : (fun (x : V) (H1 : Hp) => ∃ a dx fs, x = V.ref a ∧ H1 a = some (.ins C dx fs) ∧ fs.lookup m = Option.none ∧ t σ H1 fun vs H2 => sp (x :: (vs ++ [])) H2 Q E0) =
      fun x H1 => ∃ a dx fs, x = V.ref a ∧ H1 a = some (.ins C dx fs) ∧ fs.lookup m = Option.none ∧ t σ H1 fun vs H2 => sp (x :: vs) H2 Q E0 := by
    funext x H1
    rw [e1 x]
  rw [e2]
  exact h
theorem pe_propV {g : Addr} (hK : X.K = K) (he : PE X e ta) (c : Cls K C) (hp : PropOf K C m p g) (M : Mv X.prog X.w K X.mg X.base g k ps sp) (hr : Room (k + 1) X.A) (hb : attributeBase e m X.env (eval e X.env) = eval e X.env := by rfl) :
    PE X (.Attribute e m pos) (tPropV C sp ta) := by
  subst hK
  obtain ⟨fd, F, b⟩ := M
  exact pe_prop he c hp F hr b .nil (pass0 (X := X.nox)) hb
theorem pe_cmethV {g : Addr} {pl : Sem Bool} {x : Str} {q : Pos} (hK : X.K = K) (hg : Gl X x) (hm : X.mg x = some (.ref C)) (r : ClX.CRead K C (.type "type")) (c : ClX.CMet K C (.type "type") m p g) (M : Mv X.prog X.w K X.mg X.base g k ps sp) (hr : Room k X.A) (ha : PA X (e :: es) t)
    (hd : (x == ("__debug__" : Str)) = false := by decide)
    (hst : starEach (e :: es) X.env = (false, eval e X.env) :: starEach es X.env := by rfl) (hpl : (backTo pos (starEach es X.env)).any (·.1) = false := by rfl)
    (ht : eval (.Call (.Attribute (.Name x q) m apos) (e :: es) [] pos) X.env = (do
      let ov ← eval (.Name x q) X.env
      standAt apos.atName
      let (f, first) ← holding [ov] (getMethod ov m pl)
      callWith pos f first (backTo pos (starEach (e :: es) X.env)) (backToKw pos (keywordEach [] X.env))) := by rfl) :
    PE X (.Call (.Attribute (.Name x q) m apos) (e :: es) [] pos) (tCMethV C sp t) := by
  subst hK
  have z := ClX.pe_cmeth (pl := pl) (pe_globR (pos := q) hg hm hd) r c M.raw hr (pass0 (X := X)) ha hst hpl ht
  refine ⟨fun pins s σ H Q I h => z.run pins s σ H Q I ?_⟩
  exact ⟨rfl, h⟩
/-- C(e, ..), all parameters given -/
def tMakeV (C : Addr) (sp : Sp) (t : TA) : TE := fun σ H Q => t σ H fun vs H1 => ∀ x dx, H1 x = Option.none → H1 dx = Option.none → dx ≠ x →
  sp (.ref x :: vs) (upd (upd H1 dx (.own x)) x (.ins C dx [])) (fun v H2 => v = .non ∧ Q (.ref x) H2) E0
theorem pe_makeV {x : Str} {q : Pos} (hK : X.K = K) (hg : Gl X x) (hm : X.mg x = some (.ref C)) (Mk' : Mk K C f) (M : Mv X.prog X.w K X.mg X.base f k ps sp) (hr : Room (k + 1) X.A) (ha : PA X (e :: es) t)
    (hdb : (x == ("__debug__" : Str)) = false := by decide) (he : starEach (e :: es) X.env = (false, eval e X.env) :: starEach es X.env := by rfl) (hpl : (backTo pos (starEach es X.env)).any (·.1) = false := by rfl) :
    PE X (.Call (.Name x q) (e :: es) [] pos) (tMakeV C sp t) := by
  subst hK
  obtain ⟨fd, F, b⟩ := M
  have z := pe_make (p := q) (pos := pos) Mk' F hr hg hm b .nil (pass0 (X := X)) ha hdb he hpl
  refine ⟨fun pins s σ H Q I h => z.run pins s σ H Q I ?_⟩
  have e1 : (fun (vs : List V) (H1 : Hp) => ∀ x dx, H1 x = Option.none → H1 dx = Option.none → dx ≠ x → sp (.ref x :: (vs ++ [])) (upd (upd H1 dx (.own x)) x (.ins C dx [])) (fun v H2 => v = .non ∧ Q (.ref x) H2) E0) =
      fun vs H1 => ∀ x dx, H1 x = Option.none → H1 dx = Option.none → dx ≠ x → sp (.ref x :: vs) (upd (upd H1 dx (.own x)) x (.ins C dx [])) (fun v H2 => v = .non ∧ Q (.ref x) H2) E0 := by
    funext vs H1
    rw [List.append_nil]
  show t σ H fun vs H1 => ∀ x dx, H1 x = Option.none → H1 dx = Option.none → dx ≠ x → sp (.ref x :: (vs ++ [])) (upd (upd H1 dx (.own x)) x (.ins C dx [])) (fun v H2 => v = .non ∧ Q (.ref x) H2) E0
  rw [e1]
  exact h
end
/-! ### the classes of the text -/
abbrev gD (K : PySem.W.Frag) : Addr := He.ga K "Demand"
abbrev gP (K : PySem.W.Frag) : Addr := He.ga K "Plan"
structure Tc (K : PySem.W.Frag) : Prop where
  dcls : Cls K (gD K)
  pcls : Cls K (gP K)
  dkept : NoAttr K (gD K) "kept"
  pmany : NoAttr K (gP K) "many"
  prows : NoAttr K (gP K) "rows"
  dfew : Meth K (gD K) "fewest" (He.ma K (gD K) "fewest")
  dcol : Meth K (gD K) "column" (He.ma K (gD K) "column")
  dpla : Meth K (gD K) "place" (He.ma K (gD K) "place")
  dstr : Meth K (gD K) "__str__" (He.ma K (gD K) "__str__")
  dmk : Mk K (gD K) (He.ma K (gD K) "__init__")
  pmk : Mk K (gP K) (He.ma K (gP K) "__init__")
  drr : ClX.CRead K (gD K) (.type "type")
  drm : ClX.CMet K (gD K) (.type "type") "read" (He.ma K (gD K) "read") (FwK.recAd K "classmethod" (gD K) "read")
  pbr : ClX.CRead K (gP K) (.type "type")
  pbm : ClX.CMet K (gP K) (.type "type") "best" (He.ma K (gP K) "best") (FwK.recAd K "classmethod" (gP K) "best")
  dwp : PropOf K (gD K) "ways" (He.ma K (gD K) "ways") (FwK.recAd K "property" (gD K) "ways")
  pcp : PropOf K (gP K) "columns" (He.ma K (gP K) "columns") (FwK.recAd K "property" (gP K) "columns")
  dis : ∀ (H : Hp) (a dx : Addr) (fs : List (Str × V)), H a = some (.ins (gD K) dx fs) → TyX K H (.ref a) (.ref (gD K))
  dkit : PySem.W.kitOne K (.ref (gD K)) (.ref (gD K)) = some true
  empt : ∀ H, SqT K H (emptyT K) []
/-- an instance of Demand -/
def IsD (K : PySem.W.Frag) (H : Hp) (a : Addr) (x : Dm) : Prop := ∃ dx t, H a = some (.ins (gD K) dx [("kept", .ref t)]) ∧ Wt K H t x
theorem Ext.isD {K : PySem.W.Frag} {H H' : Hp} {a : Addr} {x : Dm} (e : Ext H H') (h : IsD K H a x) : IsD K H' a x := by
  obtain ⟨dx, t, h1, h2⟩ := h
  exact ⟨dx, t, e _ _ h1, e.wt h2⟩
/-- an instance of Plan with these trials -/
def IsP (K : PySem.W.Frag) (H : Hp) (a : Addr) (k : Nat) (rows : List Bits) : Prop := ∃ dx t, H a = some (.ins (gP K) dx [("many", .int (k : Nat)), ("rows", .ref t)]) ∧ SqT K H t (rows.map fun l => V.str (tx l))
/-! ### the line of a demand -/
def lineS (x : Dm) : Str := if wsL x = [] then "none" else Txt.join " " (wsL x)
theorem line_none : ∀ x : Dm, wsL x = [] → x = ⟨false, false, false, false⟩ := by
  rintro ⟨a, b, c, d⟩ h
  cases a <;> cases b <;> cases c <;> cases d <;> first | rfl | cases h
end FwW
end
section
set_option Elab.async false
set_option linter.all false
set_option maxRecDepth 100000
set_option maxHeartbeats 4000000
/-! The walk: counts. -/
namespace FwW
open PySem PySem.Spec PyProof.Rows L2 FwR FwH Fw
local macro_rules | `(tactic| walk_at "go") => `(tactic| (repeat (first | refine ⟨_, rfl, ?_⟩ | refine ⟨_, _, rfl, rfl, ?_⟩ | refine ⟨_, _, rfl, lenTx (by assumption), ?_⟩ | refine ⟨_, _, rfl, ?_⟩ | refine ⟨_, _, _, rfl, ?_⟩ | refine ⟨Or.inl ⟨by omega, by omega⟩, ?_⟩ | refine ⟨Or.inr ⟨by omega, by omega⟩, ?_⟩ | refine ⟨⟨by omega, by omega⟩, ?_⟩ | refine ⟨(rfl : ("str" : String) = "str"), ?_⟩ | refine ⟨_, _, rfl, sqT_new, rfl, ?_⟩ | refine And.intro scS ?_ | refine And.intro scI ?_ | refine And.intro (by omega) ?_)))
def binI (n r : Int) : Int := if r < 0 ∨ n < r then 0 else ((C n.toNat r.toNat : Nat) : Int)
theorem binI_nat (n r : Nat) : binI n r = ((C n r : Nat) : Int) := by
  unfold binI
  by_cases h : n < r
  · rw [if_pos (.inr (by omega)), C_big h]; rfl
  · rw [if_neg (by omega)]; rfl
def spBin : Sp := fun vs H Q _ => ∃ n r : Int, vs = [.int n, .int r] ∧ n ≤ 1000000 ∧ Q (.int (binI n r)) H
section
variable {P : Program} {w : World} {K : PySem.W.Frag} {mg : Str → Option Value} {base : Heap}
theorem sc_binomial : FnScope ["many", "some", "found", "k"] ["many", "some"] (defScope s_binomial) := ⟨rfl, rfl, rfl, by decide +kernel, rfl, by decide +kernel, by decide +kernel⟩
theorem av_binomial (T : Tx w K mg) (c : Tc K) (h : Here K mg "binomial" "binomial" s_binomial) : Av P w K mg base "binomial" 1 ["many", "some"] spBin := by
  refine av_mk h sc_binomial (fun _ _ _ _ _ _ us hl => match us, hl with | [_, _], _ => rfl) (fun vs H Q E hs => ?_) (fun f cdv A outer s H vs Q E hr hs => ?_)
  · obtain ⟨n, r, rfl, _⟩ := hs
    rfl
  obtain ⟨n, r, rfl, hn, hq⟩ := hs
  refine ⟨_, (pss_cons (ps_if (PW.pt (pw_or (pt_cmpR op_lt (pv 1) pe_int (nomark _)) (pw_or1 (pt_cmpR op_gt (pv 1) (pv 0) (nomark _))))) (pss_one (ps_ret pe_int)) pss_nil)
    (pss_cons (ps_set (i := 2) sc_binomial.nd rfl (Or.inl rfl) pe_int)
    (pss_cons (ps_for PassesOwn.never rfl (pi_range1 (by rfl) T.range (pa_cons (pv 1) pa_nil)) (pg_name (i := 3) sc_binomial.nd rfl (Or.inl rfl))
    (pss_one (ps_set (i := 2) sc_binomial.nd rfl (Or.inl rfl) (pe_op op_fdiv (pe_op op_mul (pv 2) (pe_op op_sub (pv 0) (pv 3))) (pe_op op_add (pv 3) pe_int)))))
    (pss_one (ps_ret (pv 2)))))), ?_⟩
  walk_at "go"
  refine d2 (fun h1 => ?_) (fun h1 => ?_)
  · refine iteT ?_
    have e : binI n r = 0 := if_pos (.inl h1)
    rw [e] at hq
    exact hq
  walk_at "go"
  refine d2 (fun h2 => ?_) (fun h2 => ?_)
  · have e : binI n r = 0 := if_pos (.inr h2)
    rw [e] at hq
    exact hq
  have e : binI n r = ((C n.toNat r.toNat : Nat) : Int) := if_neg (fun z => z.elim h1 h2)
  rw [e] at hq
  walk_at "go"
  refine for_range (lo := 0) (n := r.toNat) (fun i σ H' => H' = H ∧ ∃ k, σ = [some (.int n), some (.int r), some (.int ((C n.toNat i : Nat) : Int)), k]) ⟨rfl, _, by rw [C_zero] <;> rfl⟩ ?_ ?_
  · rintro i σ H' hi ⟨rfl, k, rfl⟩
    walk_at "go"
    refine ⟨rfl, some (.int (0 + (i : Int))), ?_⟩
    have e1 : (((C n.toNat i : Nat) : Int) * (n - (0 + (i : Int)))) / (0 + (i : Int) + 1) = ((C n.toNat (i + 1) : Nat) : Int) := by
      rw [← C_next_div, Int.zero_add]
      have e2 : n - (i : Int) = ((n.toNat - i : Nat) : Int) := by omega
      rw [e2]
      push_cast
      rfl
    rw [← e1]
    rfl
  · rintro σ H' ⟨rfl, k, rfl⟩
    walk_at "go"
    exact hq
def spDoubled : Sp := fun vs H Q _ => ∃ t : Int, vs = [.int t] ∧ 0 ≤ t ∧ t ≤ 1000000 ∧ Q (.int ((2 ^ t.toNat : Nat) : Int)) H
theorem sc_doubled : FnScope ["times", "found", "turn"] ["times"] (defScope s_doubled) := ⟨rfl, rfl, rfl, by decide +kernel, rfl, by decide +kernel, by decide +kernel⟩
theorem av_doubled (T : Tx w K mg) (c : Tc K) (h : Here K mg "doubled" "doubled" s_doubled) : Av P w K mg base "doubled" 1 ["times"] spDoubled := by
  refine av_mk h sc_doubled (fun _ _ _ _ _ _ us hl => match us, hl with | [_], _ => rfl) (fun vs H Q E hs => ?_) (fun f cdv A outer s H vs Q E hr hs => ?_)
  · obtain ⟨n, rfl, _⟩ := hs
    rfl
  obtain ⟨t, rfl, ht0, ht, hq⟩ := hs
  refine ⟨_, (pss_cons (ps_set (i := 1) sc_doubled.nd rfl (Or.inl rfl) pe_int)
    (pss_cons (ps_for PassesOwn.never rfl (pi_range1 (by rfl) T.range (pa_cons (pv 0) pa_nil)) (pg_name (i := 2) sc_doubled.nd rfl (Or.inl rfl))
    (pss_one (ps_set (i := 1) sc_doubled.nd rfl (Or.inl rfl) (pe_op op_mul (pv 1) pe_int))))
    (pss_one (ps_ret (pv 1))))), ?_⟩
  walk_at "go"
  refine for_range (lo := 0) (n := t.toNat) (fun i σ H' => H' = H ∧ ∃ k, σ = [some (.int t), some (.int ((2 ^ i : Nat) : Int)), k]) ⟨rfl, _, rfl⟩ ?_ ?_
  · rintro i σ H' hi ⟨rfl, k, rfl⟩
    walk_at "go"
    refine ⟨rfl, some (.int (0 + (i : Int))), ?_⟩
    have e1 : ((2 ^ i : Nat) : Int) * 2 = ((2 ^ (i + 1) : Nat) : Int) := by rw [Nat.pow_succ]; push_cast; rfl
    rw [← e1]
    rfl
  · rintro σ H' ⟨rfl, k, rfl⟩
    walk_at "go"
    exact hq
def spTextWith : Sp := fun vs H Q _ => ∃ n r i : Nat, vs = [.int n, .int r, .int i] ∧ n ≤ 1000 ∧ i < C n r ∧ Q (.str (tx (unrank n r i))) H
theorem C_le_of_pos {n r : Nat} (h : 0 < C n r) : r ≤ n := by
  apply Decidable.byContradiction
  intro hc
  rw [C_big (by omega)] at h
  omega
theorem ahead_int {n r : Nat} (h : 0 < C (n + 1) r) : ((C (n + 1) r : Nat) : Int) * (((n + 1 : Nat) : Int) - (r : Int)) / ((n + 1 : Nat) : Int) = ((C n r : Nat) : Int) := by
  have hr : r ≤ n + 1 := by
    apply Decidable.byContradiction
    intro hc
    rw [C_big (by omega)] at h
    omega
  have e2 : ((n + 1 : Nat) : Int) - (r : Int) = ((n + 1 - r : Nat) : Int) := by omega
  rw [e2, ← Int.natCast_mul, ← Int.natCast_ediv, C_drop_div]
theorem sc_text_with : FnScope ["many", "ones", "index", "found", "here", "left", "ahead"] ["many", "ones", "index"] (defScope s_text_with) := ⟨rfl, rfl, rfl, by decide +kernel, rfl, by decide +kernel, by decide +kernel⟩
theorem av_text_with (T : Tx w K mg) (c : Tc K) (h : Here K mg "text_with" "text_with" s_text_with) (A_binomial : Av P w K mg base "binomial" 1 ["many", "some"] spBin) : Av P w K mg base "text_with" 2 ["many", "ones", "index"] spTextWith := by
  refine av_mk h sc_text_with (fun _ _ _ _ _ _ us hl => match us, hl with | [_, _, _], _ => rfl) (fun vs H Q E hs => ?_) (fun f cdv A outer s H vs Q E hr hs => ?_)
  · obtain ⟨n, r, i, rfl, _⟩ := hs
    rfl
  obtain ⟨n, r, i, rfl, hn, hi, hq⟩ := hs
  refine ⟨_, (pss_cons (ps_par (i := 3) (j := 4) rfl sc_text_with.nd rfl rfl (by decide) rfl rfl (pa_cons pe_str (pa_cons (pe_callV (A_binomial.mono (by decide)) hr (by rfl) (pa_cons (pv 0) (pa_cons (pv 1) pa_nil))) pa_nil)) rfl)
    (pss_cons (ps_for PassesOwn.never rfl (pi_range3 (by rfl) T.range (pa_cons (pv 0) (pa_cons pe_int (pa_cons (pe_un un_neg pe_int) pa_nil)))) (pg_name (i := 5) sc_text_with.nd rfl (Or.inl rfl))
    (pss_cons (ps_set (i := 6) sc_text_with.nd rfl (Or.inl rfl) (pe_op op_fdiv (pe_op op_mul (pv 4) (pe_op op_sub (pv 5) (pv 1))) (pv 5)))
    (pss_one (ps_if (pt_cmpR op_lt (pv 2) (pv 6) (nomark _)) (pss_one (ps_par (i := 3) (j := 4) rfl sc_text_with.nd rfl rfl (by decide) rfl rfl (pa_cons (pe_op op_add_str (pv 3) pe_str) (pa_cons (pv 6) pa_nil)) rfl)) (pss_cons (ps_set (i := 4) sc_text_with.nd rfl (Or.inl rfl) (pe_op op_sub (pv 4) (pv 6)))
    (pss_one (ps_par3 (i := 3) (j := 2) (l := 1) rfl sc_text_with.nd rfl rfl rfl (by decide) (by decide) (by decide) rfl rfl rfl (pa_cons (pe_op op_add_str (pv 3) pe_str) (pa_cons (pe_op op_sub (pv 2) (pv 6)) (pa_cons (pe_op op_sub (pv 1) pe_int) pa_nil))) rfl)))))))
    (pss_one (ps_ret (pv 3))))), ?_⟩
  walk_at "go"

  rw [binI_nat]
  walk_at "go"
  refine ⟨_, _, _, _, rfl, RgC.neg (i := (n : Int)) (j := 0) (by omega) (by omega) (by omega) (by omega), for_rangeC (n := n) (lo := (n : Int)) (c := -1) (fun j σ H' => H' = H ∧ ∃ (p : Bits) (r' i' : Nat) (a b : Option V), p.length = j ∧ i' < C (n - j) r' ∧ unrank n r i = p ++ unrank (n - j) r' i' ∧
    σ = [some (.int n), some (.int r'), some (.int i'), some (.str (tx p)), some (.int ((C (n - j) r' : Nat) : Int)), a, b]) ⟨rfl, [], r, i, _, _, rfl, hi, rfl, rfl⟩ ?_ ?_⟩
  · rintro j σ H' hj ⟨rfl, p, r', i', a, b, hp, hi', hu, rfl⟩
    obtain ⟨m, hm⟩ : ∃ m, n - j = m + 1 := ⟨n - j - 1, by omega⟩
    have hm2 : n - (j + 1) = m := by omega
    have e3 : (n : Int) + (j : Int) * -1 = ((m + 1 : Nat) : Int) := by omega
    rw [hm] at hi' hu
    rw [hm, e3]
    have hz : p.length + 1 ≤ sizeLine := by rw [hp, sizeLine_eq]; omega
    have hr' : r' ≤ m + 1 := C_le_of_pos (by omega)
    have ea := ahead_int (n := m) (r := r') (by omega)
    walk_at "go"
    rw [ea]
    refine d2 (fun h1 => ?_) (fun h1 => ?_)
    · walk_at "go"
      refine ⟨by rw [tx_len]; exact hz, ?_⟩
      walk_at "go"
      refine ⟨p ++ [false], r', i', some (.int ((m + 1 : Nat) : Int)), some (.int ((C m r' : Nat) : Int)), by rw [List.length_append, hp]; rfl, by rw [hm2]; omega, ?_, ?_⟩
      · rw [hu, hm2, List.append_assoc]
        show p ++ (if i' < C m r' then false :: unrank m r' i' else _) = _
        rw [if_pos (by omega)]; rfl
      · rw [hm2, ← tx_app, ← tx0, ← ea]; rfl
    · walk_at "go"
      refine ⟨by rw [tx_len]; exact hz, ?_⟩
      walk_at "go"
      have h0 : 0 < r' := by
        apply Decidable.byContradiction
        intro hc
        have : r' = 0 := by omega
        subst this
        rw [C_zero] at hi' h1
        omega
      obtain ⟨q, rfl⟩ : ∃ q, r' = q + 1 := ⟨r' - 1, by omega⟩
      have hc := C_step m q
      refine ⟨rfl, p ++ [true], q, i' - C m (q + 1), some (.int ((m + 1 : Nat) : Int)), some (.int ((C m (q + 1) : Nat) : Int)), by rw [List.length_append, hp]; rfl, by rw [hm2]; omega, ?_, ?_⟩
      · rw [hu, hm2, List.append_assoc]
        show p ++ (if i' < C m (q + 1) then _ else true :: unrank m q (i' - C m (q + 1))) = _
        rw [if_neg (by omega)]; rfl
      · have e5 : ((C (m + 1) (q + 1) : Nat) : Int) - ((C m (q + 1) : Nat) : Int) = ((C m q : Nat) : Int) := by omega
        have e6 : (i' : Int) - ((C m (q + 1) : Nat) : Int) = ((i' - C m (q + 1) : Nat) : Int) := by omega
        have e7 : ((q + 1 : Nat) : Int) - 1 = (q : Int) := by omega
        rw [hm2, ← tx_app, ← tx1, ← e5, ← e6, ← e7, ← ea]; rfl
  · rintro σ H' ⟨rfl, p, r', i', a, b, hp, hi', hu, rfl⟩
    rw [Nat.sub_self] at hu
    have hu : unrank n r i = p ++ [] := hu
    rw [List.append_nil] at hu
    rw [hu] at hq
    walk_at "go"
    exact hq
def spIndexWith : Sp := fun vs H Q _ => ∃ l : Bits, vs = [.str (tx l)] ∧ l.length ≤ 1000 ∧ ∀ H', Ext H H' → Q (.int ((rank l : Nat) : Int)) H'
theorem sc_index_with : FnScope ["text", "found", "ones", "here", "place", "sign", "left", "ahead"] ["text"] (defScope s_index_with) := ⟨rfl, rfl, rfl, by decide +kernel, rfl, by decide +kernel, by decide +kernel⟩
theorem av_index_with (T : Tx w K mg) (c : Tc K) (h : Here K mg "index_with" "index_with" s_index_with) (A_binomial : Av P w K mg base "binomial" 1 ["many", "some"] spBin) : Av P w K mg base "index_with" 2 ["text"] spIndexWith := by
  refine av_mk h sc_index_with (fun _ _ _ _ _ _ us hl => match us, hl with | [_], _ => rfl) (fun vs H Q E hs => ?_) (fun f cdv A outer s H vs Q E hr hs => ?_)
  · obtain ⟨n, rfl, _⟩ := hs
    rfl
  obtain ⟨l, rfl, hl, hq⟩ := hs
  refine ⟨_, (pss_cons (ps_par (i := 1) (j := 2) rfl sc_index_with.nd rfl rfl (by decide) rfl rfl (pa_cons pe_int (pa_cons (pe_bm PySem.F.plainAttrs_str PySem.F.slot_str_count PySem.F.type_str_count mt_count (pv 0) (pa_cons pe_str pa_nil)) pa_nil)) rfl)
    (pss_cons (ps_set (i := 3) sc_index_with.nd rfl (Or.inl rfl) (pe_callV (A_binomial.mono (by decide)) hr (by rfl) (pa_cons (pe_callB (call_lenK (K := K) rfl) (by rfl) T.len PySem.boot_len (pa_cons (pv 0) pa_nil)) (pa_cons (pv 2) pa_nil))))
    (pss_cons (ps_for PassesOwn.never rfl (pi_enumS (by rfl) T.enumerate (pa_cons (pv 0) pa_nil)) (pg_tupK (K := K) (n := 2) rfl rfl (pgs_cons (pg_name (i := 4) sc_index_with.nd rfl (Or.inl rfl)) (pgs_cons (pg_name (i := 5) sc_index_with.nd rfl (Or.inl rfl)) pgs_nil)))
    (pss_cons (ps_set (i := 6) sc_index_with.nd rfl (Or.inl rfl) (pe_op op_sub (pe_callB (call_lenK (K := K) rfl) (by rfl) T.len PySem.boot_len (pa_cons (pv 0) pa_nil)) (pv 4)))
    (pss_cons (ps_set (i := 7) sc_index_with.nd rfl (Or.inl rfl) (pe_op op_fdiv (pe_op op_mul (pv 3) (pe_op op_sub (pv 6) (pv 2))) (pv 6)))
    (pss_one (ps_if (pt_cmpR op_eq (pv 5) pe_str (nomark _)) (pss_one (ps_par3 (i := 1) (j := 3) (l := 2) rfl sc_index_with.nd rfl rfl rfl (by decide) (by decide) (by decide) rfl rfl rfl (pa_cons (pe_op op_add (pv 1) (pv 7)) (pa_cons (pe_op op_sub (pv 3) (pv 7)) (pa_cons (pe_op op_sub (pv 2) pe_int) pa_nil))) rfl)) (pss_one (ps_set (i := 3) sc_index_with.nd rfl (Or.inl rfl) (pv 7))))))))
    (pss_one (ps_ret (pv 1)))))), ?_⟩
  have hz : l.length ≤ sizeLine := by rw [sizeLine_eq]; omega
  walk_at "go"
  rw [count1]
  walk_at "go"
  rw [binI_nat]
  walk_at "go"
  refine for_it walk_f (fun j σ H' => Ext H H' ∧ ∃ (fd : Nat) (a b c d : Option V), fd + rank (l.drop j) = rank l ∧
    σ = [some (.str (tx l)), some (.int (fd : Int)), some (.int ((ones (l.drop j) : Nat) : Int)), some (.int ((C (l.drop j).length (ones (l.drop j)) : Nat) : Int)), a, b, c, d]) ⟨Ext.refl, 0, _, _, _, _, Nat.zero_add _, rfl⟩ (fun _ _ _ _ _ => trivial) ?_ ?_
  · rintro j x σ H' H'' hj ⟨he, fd, a, b, c, d, hf, rfl⟩ ⟨p, z, rfl, hp, rfl, hz'⟩
    have hj : j < l.length := by
      have : j < (tx l).length := hj
      rwa [tx_len] at this
    have hd : l.drop j = l[j] :: l.drop (j + 1) := List.drop_eq_getElem_cons hj
    have hz2 : z = .str ⟨#[sg l[j]]⟩ := by
      have : ((tx l).cps[j]?).map (fun c => V.str ⟨#[c]⟩) = some z := hz'
      rw [tx_ix, List.getElem?_eq_getElem hj] at this
      exact (Option.some.inj this).symm
    subst hz2
    generalize l[j] = b0 at hd
    have hlen : l.length - j = (l.drop (j + 1)).length + 1 := by rw [List.length_drop]; omega
    generalize l.drop (j + 1) = t at hd hlen
    rw [hd] at hf
    rw [hd]
    have ho := ones_le t
    have ho2 : ones (b0 :: t) ≤ t.length + 1 := ones_le (b0 :: t)
    have hpos : 0 < C (t.length + 1) (ones (b0 :: t)) := C_pos ho2
    have e1 : (l.length : Int) - (j : Int) = ((t.length + 1 : Nat) : Int) := by omega
    have ea := ahead_int hpos
    have hl2 : (b0 :: t).length = t.length + 1 := rfl
    rw [hl2]
    walk_at "go"
    rw [sg_one]
    have hx : Ext H (upd H' p (.tup [.int (j : Int), .str ⟨#[sg b0]⟩])) := he.trans (Ext.new hp)
    cases b0 with
    | true =>
      refine bT rfl ?_
      walk_at "go"
      have hs := C_step t.length (ones t)
      have h1 : ones (true :: t) = ones t + 1 := Nat.add_comm _ _
      have hk : rank (true :: t) = C t.length (ones t + 1) + rank t := rfl
      have e4 : ((C (t.length + 1) (ones t + 1) : Nat) : Int) - ((C t.length (ones t + 1) : Nat) : Int) = ((C t.length (ones t) : Nat) : Int) := by omega
      have e5 : ((ones t + 1 : Nat) : Int) - 1 = ((ones t : Nat) : Int) := by omega
      have e6 : (fd : Int) + ((C t.length (ones t + 1) : Nat) : Int) = ((fd + C t.length (ones t + 1) : Nat) : Int) := by push_cast; rfl
      rw [h1] at ea ⊢
      refine ⟨fd + C t.length (ones t + 1), some (.int (j : Int)), some (.str ⟨#[sg true]⟩), some (.int ((l.length : Int) - (j : Int))), some (.int ((C t.length (ones t + 1) : Nat) : Int)), by omega, ?_⟩
      rw [← e6, ← e4, ← e5, ← ea, ← e1]
      rfl
    | false =>
      refine bF rfl ?_
      walk_at "go"
      have h1 : ones (false :: t) = ones t := Nat.zero_add _
      have hk : rank (false :: t) = rank t := rfl
      rw [h1] at ea ⊢
      refine ⟨fd, some (.int (j : Int)), some (.str ⟨#[sg false]⟩), some (.int ((l.length : Int) - (j : Int))), some (.int ((C t.length (ones t) : Nat) : Int)), by omega, ?_⟩
      rw [← ea, ← e1]
      rfl
  · rintro σ H' ⟨he, fd, a, b, c, d, hf, rfl⟩
    have e : fd = rank l := by
      rw [← hf, List.drop_eq_nil_of_le (by show l.length ≤ (tx l).length; rw [tx_len]; exact Nat.le_refl _)]; rfl
    subst e
    walk_at "go"
    exact hq _ he
def spTextByOnes : Sp := fun vs H Q _ => ∃ (n i : Nat) (b : Bool), vs = [.int n, .int i, .bl b] ∧ n ≤ 999 ∧ i < 2 ^ n ∧ Q (.str (tx (textBy n i b))) H
theorem stepOnes_int {n s : Nat} (b : Bool) (h : s ≤ n) : (match b with | true => (s : Int) | false => (n : Int) - (s : Int)) = ((stepOnes n b s : Nat) : Int) := by
  cases b
  · show (n : Int) - (s : Int) = ((n - s : Nat) : Int); omega
  · rfl
theorem sc_text_by_ones : FnScope ["many", "index", "is_rising", "step", "ones", "here"] ["many", "index", "is_rising"] (defScope s_text_by_ones) := ⟨rfl, rfl, rfl, by decide +kernel, rfl, by decide +kernel, by decide +kernel⟩
theorem av_text_by_ones (T : Tx w K mg) (c : Tc K) (h : Here K mg "text_by_ones" "text_by_ones" s_text_by_ones) (A_binomial : Av P w K mg base "binomial" 1 ["many", "some"] spBin) (A_text_with : Av P w K mg base "text_with" 2 ["many", "ones", "index"] spTextWith) : Av P w K mg base "text_by_ones" 3 ["many", "index", "is_rising"] spTextByOnes := by
  refine av_mk h sc_text_by_ones (fun _ _ _ _ _ _ us hl => match us, hl with | [_, _, _], _ => rfl) (fun vs H Q E hs => ?_) (fun f cdv A outer s H vs Q E hr hs => ?_)
  · obtain ⟨n, i, b, rfl, _⟩ := hs
    rfl
  obtain ⟨n, i, b, rfl, hn, hi, hq⟩ := hs
  refine ⟨_, (pss_cons (ps_for PassesOwn.never rfl (pi_range1 (by rfl) T.range (pa_cons (pe_op op_add (pv 0) pe_int) pa_nil)) (pg_name (i := 3) sc_text_by_ones.nd rfl (Or.inl rfl))
    (pss_cons (ps_set (i := 4) sc_text_by_ones.nd rfl (Or.inl rfl) (pe_ifExp (pt_val (pv 2)) (pv 3) (pe_op op_sub (pv 0) (pv 3))))
    (pss_cons (ps_set (i := 5) sc_text_by_ones.nd rfl (Or.inl rfl) (pe_callV (A_binomial.mono (by decide)) hr (by rfl) (pa_cons (pv 0) (pa_cons (pv 4) pa_nil))))
    (pss_cons (ps_if (pt_cmpR op_lt (pv 1) (pv 5) (nomark _)) (pss_one (ps_ret (pe_callV (A_text_with.mono (by decide)) hr (by rfl) (pa_cons (pv 0) (pa_cons (pv 4) (pa_cons (pv 1) pa_nil)))))) pss_nil)
    (pss_one (ps_set (i := 1) sc_text_by_ones.nd rfl (Or.inl rfl) (pe_op op_sub (pv 1) (pv 5))))))))
    (pss_one (ps_ret pe_non))), ?_⟩
  walk_at "go"
  refine for_range (n := n + 1) (fun j σ H' => H' = H ∧ ∃ (i' : Nat) (x y z : Option V), byOnes n b (n + 1 - j) j i' = textBy n i b ∧ rowB n b j + i' = i ∧ σ = [some (.int n), some (.int i'), some (.bl b), x, y, z]) ⟨rfl, i, _, _, _, rfl, by rw [rowB_zero]; omega, rfl⟩ ?_ ?_
  · rintro j σ H' hj ⟨rfl, i', x, y, z, hb, hr2, rfl⟩
    have e0 : (0 : Int) + (j : Int) = (j : Int) := Int.zero_add _
    rw [e0]
    obtain ⟨m, hm⟩ : ∃ m, n + 1 - j = m + 1 := ⟨n - j, by omega⟩
    rw [hm] at hb
    have hb2 : (if i' < C n (stepOnes n b j) then unrank n (stepOnes n b j) i' else byOnes n b m (j + 1) (i' - C n (stepOnes n b j))) = textBy n i b := hb
    have hm2 : n + 1 - (j + 1) = m := by omega
    have hrow := rowB_succ n b j
    cases b with
    | true =>
      have hb3 : (if i' < C n j then unrank n j i' else byOnes n true m (j + 1) (i' - C n j)) = textBy n i true := hb2
      have hrow3 : rowB n true (j + 1) = rowB n true j + C n j := hrow
      walk_at "go"
      rw [binI_nat]
      refine d2 (fun h1 => ?_) (fun h1 => ?_)
      · walk_at "go"
        rw [if_pos (by omega)] at hb3
        rw [hb3]
        exact hq
      · walk_at "go"
        rw [if_neg (by omega)] at hb3
        refine ⟨rfl, i' - C n j, some (.int (j : Int)), some (.int (j : Int)), some (.int ((C n j : Nat) : Int)), by rw [hm2]; exact hb3, by omega, ?_⟩
        have e6 : (i' : Int) - ((C n j : Nat) : Int) = ((i' - C n j : Nat) : Int) := by omega
        rw [← e6, ← binI_nat]; rfl
    | false =>
      have hb3 : (if i' < C n (n - j) then unrank n (n - j) i' else byOnes n false m (j + 1) (i' - C n (n - j))) = textBy n i false := hb2
      have hrow3 : rowB n false (j + 1) = rowB n false j + C n (n - j) := hrow
      have e5 : (n : Int) - (j : Int) = ((n - j : Nat) : Int) := by omega
      walk_at "go"
      rw [e5, binI_nat]
      refine d2 (fun h1 => ?_) (fun h1 => ?_)
      · walk_at "go"
        refine ⟨n, n - j, i', by rw [← e5], by omega, by omega, ?_⟩
        rw [if_pos (by omega)] at hb3
        rw [hb3]
        exact hq
      · walk_at "go"
        rw [if_neg (by omega)] at hb3
        refine ⟨rfl, i' - C n (n - j), some (.int (j : Int)), some (.int ((n : Int) - (j : Int))), some (.int ((C n (n - j) : Nat) : Int)), by rw [hm2]; exact hb3, by omega, ?_⟩
        have e6 : (i' : Int) - ((C n (n - j) : Nat) : Int) = ((i' - C n (n - j) : Nat) : Int) := by omega
        rw [← e6, ← binI_nat, ← e5]; rfl
  · rintro σ H' ⟨rfl, i', x, y, z, hb, hr2, rfl⟩
    rw [rowB_all] at hr2
    omega
def spIndexByOnes : Sp := fun vs H Q _ => ∃ (l : Bits) (b : Bool), vs = [.str (tx l), .bl b] ∧ l.length ≤ 1000 ∧ ∀ H', Ext H H' → Q (.int ((indexBy l b : Nat) : Int)) H'
/-- the comprehension's texts: binomials of a run of numbers -/
def runB (n : Nat) (a : Int) (m : Nat) : List Int := (List.range m).map fun k => binI n (a + (k : Nat))
theorem runB_succ (n : Nat) (a : Int) (m : Nat) : runB n a (m + 1) = runB n a m ++ [binI n (a + (m : Nat))] := by
  unfold runB
  rw [List.range_succ, List.map_append]; rfl
theorem sum_snoc (l : List Int) (x : Int) : (l ++ [x]).sum = l.sum + x := by
  rw [List.sum_append]; simp
theorem runB_up (n : Nat) : ∀ m, (runB n 0 m).sum = ((rowS n m : Nat) : Int)
  | 0 => rfl
  | m + 1 => by
    rw [runB_succ, sum_snoc, runB_up n m, Int.zero_add, binI_nat]
    show _ = ((rowS n m + C n m : Nat) : Int)
    push_cast; rfl
theorem runB_cons (n : Nat) (a : Int) (m : Nat) : (runB n a (m + 1)).sum = binI n a + (runB n (a + 1) m).sum := by
  induction m with
  | zero => show (binI n (a + 0) + 0) = binI n a + 0; rw [Int.add_zero a]
  | succ m ih =>
    rw [runB_succ, sum_snoc, ih, runB_succ n (a + 1) m, sum_snoc, Int.add_assoc]
    have e : a + ((m + 1 : Nat) : Int) = a + 1 + (m : Int) := by push_cast; omega
    rw [e]
theorem runB_down (n : Nat) : ∀ m, m ≤ n → (runB n (((n - m : Nat) : Int) + 1) m).sum = ((rowF n m : Nat) : Int)
  | 0, _ => rfl
  | m + 1, h => by
    have e : ((n - (m + 1) : Nat) : Int) + 1 = ((n - m : Nat) : Int) := by omega
    rw [e, runB_cons, runB_down n m (by omega), binI_nat]
    show _ = ((rowF n m + C n (n - m) : Nat) : Int)
    push_cast; omega
theorem sc_index_by_ones : FnScope ["text", "is_rising", "ones", "ahead", "some"] ["text", "is_rising"] (defScope s_index_by_ones) := ⟨rfl, rfl, rfl, by decide +kernel, rfl, by decide +kernel, by decide +kernel⟩
theorem av_index_by_ones (T : Tx w K mg) (c : Tc K) (h : Here K mg "index_by_ones" "index_by_ones" s_index_by_ones) (A_binomial : Av P w K mg base "binomial" 1 ["many", "some"] spBin) (A_index_with : Av P w K mg base "index_with" 2 ["text"] spIndexWith) : Av P w K mg base "index_by_ones" 3 ["text", "is_rising"] spIndexByOnes := by
  refine av_mk h sc_index_by_ones (fun _ _ _ _ _ _ us hl => match us, hl with | [_, _], _ => rfl) (fun vs H Q E hs => ?_) (fun f cdv A outer s H vs Q E hr hs => ?_)
  · obtain ⟨l, b, rfl, _⟩ := hs
    rfl
  obtain ⟨l, b, rfl, hl, hq⟩ := hs
  refine ⟨_, (pss_cons (ps_set (i := 2) sc_index_by_ones.nd rfl (Or.inl rfl) (pe_bm PySem.F.plainAttrs_str PySem.F.slot_str_count PySem.F.type_str_count mt_count (pv 0) (pa_cons pe_str pa_nil)))
    (pss_cons (ps_set (i := 3) sc_index_by_ones.nd rfl (Or.inl rfl) (pe_ifExp (pt_val (pv 1)) (pe_listRg rfl (by rfl) T.list_ (prg_1 (by rfl) T.range (pv 2))) (pe_listRg rfl (by rfl) T.list_ (prg_2 (by rfl) T.range (pe_op op_add (pv 2) pe_int) (pe_op op_add (pe_callB (call_lenK (K := K) rfl) (by rfl) T.len PySem.boot_len (pa_cons (pv 0) pa_nil)) pe_int)))))
    (pss_one (ps_ret (pe_op op_add (pe_callB (sum_K (K := K) rfl rfl) (by rfl) T.sum (by decide +kernel) (pa_cons (pe_lc (own := [("some", 4)]) (g := gName 4) (by rfl) sc_index_by_ones.nd (pi_listK (K := K) rfl (pv 3)) (blkOk_by (own := [("some", 4)]) (N := ["text", "is_rising", "ones", "ahead", "some"]) (sc := (defScope s_index_by_ones)) (by decide +kernel)) (fun _ _ _ _ _ => (pg_name (i := 4) sc_index_by_ones.nd rfl (Or.inl rfl))) (fun _ _ _ _ _ => pts_nil) (fun _ _ _ _ _ => (pe_callV (A_binomial.mono (by decide)) hr (by rfl) (pa_cons (pe_callB (call_lenK (K := K) rfl) (by rfl) T.len PySem.boot_len (pa_cons (pv 0) pa_nil)) (pa_cons (pv 4) pa_nil))))) pa_nil)) (pe_callV (A_index_with.mono (by decide)) hr (by rfl) (pa_cons (pv 0) pa_nil))))))), ?_⟩
  have hz : l.length ≤ sizeLine := by rw [sizeLine_eq]; omega
  walk_at "go"
  rw [count1]
  have ho := ones_le l
  cases b with
  | true =>
    walk_at "go"
    intro q hq1
    walk_at "go"
    refine ⟨⟨_, sqL_new⟩, fun D hD => ?_⟩
    refine lc_pure walk_list (fun i => (runB l.length (0) i).map V.int) hD rfl (fun H e => e.sqL sqL_new) (fun i hi => ?_) ?_ ?_
    · rw [rgV_length] at hi
      rw [List.length_map]
      unfold runB
      rw [List.length_map, List.length_range, sizeLine_eq]
      omega
    · rintro i x H1 H2 hi e1 ⟨rfl, hx⟩ Ky K0 hy h0
      have hx2 : x = .int (0 + (i : Nat)) := rgV_at hx
      subst hx2
      refine ⟨rfl, ?_⟩
      walk_at "go"
      exact hy _ _ Ext.refl (by rw [runB_succ, List.map_append]; rfl)
    · intro H1 e1 hD1
      refine ⟨_, _, rfl, sqL_of hD1, ?_⟩
      walk_at "go"
      intro H2 e2
      walk_at "go"
      have es : (runB l.length (0) (rgV (0) (ones l : Nat)).length).sum + ((rank l : Nat) : Int) = ((indexBy l true : Nat) : Int) := by
        rw [rgV_length, Int.sub_zero, Int.toNat_natCast, runB_up]
        show _ = ((rowS l.length (ones l) + rank l : Nat) : Int)
        push_cast; rfl
      have hf := hq H2 (((Ext.new hq1).trans e1).trans e2)
      rw [← es] at hf
      exact hf
  | false =>
    walk_at "go"
    intro q hq1
    walk_at "go"
    refine ⟨⟨_, sqL_new⟩, fun D hD => ?_⟩
    refine lc_pure walk_list (fun i => (runB l.length ((ones l : Int) + 1) i).map V.int) hD rfl (fun H e => e.sqL sqL_new) (fun i hi => ?_) ?_ ?_
    · rw [rgV_length] at hi
      rw [List.length_map]
      unfold runB
      rw [List.length_map, List.length_range, sizeLine_eq]
      omega
    · rintro i x H1 H2 hi e1 ⟨rfl, hx⟩ Ky K0 hy h0
      have hx2 : x = .int ((ones l : Int) + 1 + (i : Nat)) := rgV_at hx
      subst hx2
      refine ⟨rfl, ?_⟩
      walk_at "go"
      exact hy _ _ Ext.refl (by rw [runB_succ, List.map_append]; rfl)
    · intro H1 e1 hD1
      refine ⟨_, _, rfl, sqL_of hD1, ?_⟩
      walk_at "go"
      intro H2 e2
      walk_at "go"
      have es : (runB l.length ((ones l : Int) + 1) (rgV ((ones l : Int) + 1) ((l.length : Nat) + 1)).length).sum + ((rank l : Nat) : Int) = ((indexBy l false : Nat) : Int) := by
        rw [rgV_length]
        have e3 : ((l.length : Nat) + 1 - ((ones l : Int) + 1)).toNat = l.length - ones l := by omega
        have e4 : (ones l : Int) + 1 = ((l.length - (l.length - ones l) : Nat) : Int) + 1 := by omega
        rw [e3, e4, runB_down l.length (l.length - ones l) (by omega)]
        show _ = ((rowF l.length (l.length - ones l) + rank l : Nat) : Int)
        push_cast; rfl
      have hf := hq H2 (((Ext.new hq1).trans e1).trans e2)
      rw [← es] at hf
      exact hf
end
end FwW
end
section
set_option Elab.async false
set_option linter.all false
set_option maxRecDepth 100000
set_option maxHeartbeats 4000000
namespace FwW
open PySem PySem.Spec PyProof.Rows L2 FwR FwH Fw
local macro_rules | `(tactic| walk_at "go") => `(tactic| (repeat (first | refine ⟨_, rfl, ?_⟩ | refine ⟨_, _, rfl, rfl, ?_⟩ | refine ⟨_, _, rfl, lenTx (by assumption), ?_⟩ | refine ⟨_, _, rfl, ?_⟩ | refine ⟨_, _, _, rfl, ?_⟩ | refine ⟨Or.inl ⟨by omega, by omega⟩, ?_⟩ | refine ⟨Or.inr ⟨by omega, by omega⟩, ?_⟩ | refine ⟨⟨by omega, by omega⟩, ?_⟩ | refine ⟨(rfl : ("str" : String) = "str"), ?_⟩ | refine ⟨_, _, rfl, sqT_new, rfl, ?_⟩ | refine ⟨_, _, rfl, sqT_of (by assumption), rfl, ?_⟩ | refine ⟨⟨_, rfl⟩, ?_⟩ | refine And.intro scS ?_ | refine And.intro scI ?_ | refine And.intro (short (Nat.le_of_ble_eq_true rfl)) ?_ | refine ⟨_, _, rfl, .inr (by assumption), rfl, ws_flat _, ?_⟩ | refine ⟨_, _, rfl, lenT (by assumption), ?_⟩ | refine ⟨_, _, rfl, lenL (by assumption), ?_⟩ | refine And.intro (by omega) ?_ | refine ⟨_, _, _, _, _, rfl, .ty _, .base (.int _), kit_ii, ?_⟩ | refine ⟨_, _, _, _, _, rfl, .ty _, .base (.int _), kit_ib, ?_⟩ | refine ⟨_, _, _, _, _, rfl, .ty _, .base (.str _), kit_ss, ?_⟩ | refine ⟨_, _, _, _, _, rfl, .ty _, .base (.bl _), kit_bb, ?_⟩ | refine ⟨_, _, _, _, _, rfl, .ty _, ty_t (by assumption), kit_tt, ?_⟩ | refine iteT ?_ | refine iteF ?_ | refine eT (by omega) ?_ | refine eF (by omega) ?_ | refine nT (by omega) ?_ | refine nF (by omega) ?_ | refine dT (by omega) ?_ | refine dF (by omega) ?_)))
section
variable {P : Program} {w : World} {K : PySem.W.Frag} {mg : Str → Option Value} {base : Heap}
def spIsInt : Sp := fun vs H Q _ => ∃ i : Int, vs = [.int i] ∧ Q (.bl true) H
theorem sc_is_integer_values : FnScope ["value"] ["value"] (defScope s_is_integer_values) := ⟨rfl, rfl, rfl, by decide +kernel, rfl, by decide +kernel, by decide +kernel⟩
theorem av_is_integer_values (T : Tx w K mg) (c : Tc K) (h : Here K mg "is_integer_values" "is_integer" s_is_integer_values) : Av P w K mg base "is_integer_values" 1 ["value"] spIsInt := by
  refine av_mk h sc_is_integer_values (fun _ _ _ _ _ _ us hl => match us, hl with | [_], _ => rfl) (fun vs H Q E hs => ?_) (fun f cdv A outer s H vs Q E hr hs => ?_)
  · obtain ⟨i, rfl, _⟩ := hs
    rfl
  obtain ⟨i, rfl, hq⟩ := hs
  refine ⟨_, (pss_one (ps_ret (pe_and (pe_callB (isi_K (K := K) rfl) (by rfl) T.isinstance (by decide +kernel) (pa_cons (pv 0) (pa_cons (pe_bltn (v := .ty "int") (by rfl) T.int_ (by decide +kernel) rfl) pa_nil))) (pe_one (pe_not (pe_callB (isi_K (K := K) rfl) (by rfl) T.isinstance (by decide +kernel) (pa_cons (pv 0) (pa_cons (pe_bltn (v := .ty "bool") (by rfl) T.bool_ (by decide +kernel) rfl) pa_nil)))))))), ?_⟩
  walk_at "go"
  exact hq
theorem sc_is_integer_checker : FnScope ["value"] ["value"] (defScope s_is_integer_checker) := ⟨rfl, rfl, rfl, by decide +kernel, rfl, by decide +kernel, by decide +kernel⟩
theorem av_is_integer_checker (T : Tx w K mg) (c : Tc K) (h : Here K mg "is_integer_checker" "is_integer" s_is_integer_checker) : Av P w K mg base "is_integer_checker" 1 ["value"] spIsInt := by
  refine av_mk h sc_is_integer_checker (fun _ _ _ _ _ _ us hl => match us, hl with | [_], _ => rfl) (fun vs H Q E hs => ?_) (fun f cdv A outer s H vs Q E hr hs => ?_)
  · obtain ⟨i, rfl, _⟩ := hs
    rfl
  obtain ⟨i, rfl, hq⟩ := hs
  refine ⟨_, (pss_one (ps_ret (pe_and (pe_callB (isi_K (K := K) rfl) (by rfl) T.isinstance (by decide +kernel) (pa_cons (pv 0) (pa_cons (pe_bltn (v := .ty "int") (by rfl) T.int_ (by decide +kernel) rfl) pa_nil))) (pe_one (pe_not (pe_callB (isi_K (K := K) rfl) (by rfl) T.isinstance (by decide +kernel) (pa_cons (pv 0) (pa_cons (pe_bltn (v := .ty "bool") (by rfl) T.bool_ (by decide +kernel) rfl) pa_nil)))))))), ?_⟩
  walk_at "go"
  exact hq
def spIsIndex : Sp := fun vs H Q _ => ∃ i m : Int, vs = [.int i, .int m] ∧ 0 ≤ i ∧ i < m ∧ Q (.bl true) H
theorem sc_is_index : FnScope ["value", "many"] ["value", "many"] (defScope s_is_index) := ⟨rfl, rfl, rfl, by decide +kernel, rfl, by decide +kernel, by decide +kernel⟩
theorem av_is_index (T : Tx w K mg) (c : Tc K) (h : Here K mg "is_index" "is_index" s_is_index) (A_is_integer_values : Av P w K mg base "is_integer_values" 1 ["value"] spIsInt) : Av P w K mg base "is_index" 2 ["value", "many"] spIsIndex := by
  refine av_mk h sc_is_index (fun _ _ _ _ _ _ us hl => match us, hl with | [_, _], _ => rfl) (fun vs H Q E hs => ?_) (fun f cdv A outer s H vs Q E hr hs => ?_)
  · obtain ⟨i, m, rfl, _⟩ := hs
    rfl
  obtain ⟨i, m, rfl, h0, h1, hq⟩ := hs
  refine ⟨_, (pss_one (ps_ret (pe_and (pe_callV (A_is_integer_values.mono (by decide)) hr (by rfl) (pa_cons (pv 0) pa_nil)) (pe_one (pe_chain op_le op_lt pe_int (pv 0) (pv 1)))))), ?_⟩
  walk_at "go"
  show Q (.bl (decide (i < m))) H
  rw [decide_eq_true h1]
  exact hq
def spIsNumber : Sp := fun vs H Q _ => ∃ i a b : Int, vs = [.int i, .int a, .int b] ∧ a ≤ i ∧ i ≤ b ∧ Q (.bl true) H
theorem sc_is_number : FnScope ["value", "least", "most"] ["value", "least", "most"] (defScope s_is_number) := ⟨rfl, rfl, rfl, by decide +kernel, rfl, by decide +kernel, by decide +kernel⟩
theorem av_is_number (T : Tx w K mg) (c : Tc K) (h : Here K mg "is_number" "is_number" s_is_number) (A_is_integer_checker : Av P w K mg base "is_integer_checker" 1 ["value"] spIsInt) : Av P w K mg base "is_number" 2 ["value", "least", "most"] spIsNumber := by
  refine av_mk h sc_is_number (fun _ _ _ _ _ _ us hl => match us, hl with | [_, _, _], _ => rfl) (fun vs H Q E hs => ?_) (fun f cdv A outer s H vs Q E hr hs => ?_)
  · obtain ⟨i, a, b, rfl, _⟩ := hs
    rfl
  obtain ⟨i, a, b, rfl, h0, h1, hq⟩ := hs
  refine ⟨_, (pss_one (ps_ret (pe_and (pe_callV (A_is_integer_checker.mono (by decide)) hr (by rfl) (pa_cons (pv 0) pa_nil)) (pe_one (pe_chain op_le op_le (pv 1) (pv 0) (pv 2)))))), ?_⟩
  walk_at "go"
  show Q (.bl (decide (i ≤ b))) H
  rw [decide_eq_true h1]
  exact hq
def spIsSigns : Sp := fun vs H Q _ => ∃ l : Bits, vs = [.str (tx l), .int (l.length : Nat)] ∧ l.length ≤ 1000 ∧ ∀ H', Ext H H' → Q (.bl true) H'
theorem all_tt (n : Nat) : (List.replicate n true).all id = true := by induction n with
  | zero => rfl
  | succ n ih => rw [List.replicate_succ, List.all_cons, ih]; rfl
theorem sign_in (b : Bool) : decide (sg b ∈ (Str.ofString "01").cps.toList) = true := by cases b <;> decide
theorem sc_is_signs_values : FnScope ["value", "many", "sign"] ["value", "many"] (defScope s_is_signs_values) := ⟨rfl, rfl, rfl, by decide +kernel, rfl, by decide +kernel, by decide +kernel⟩
theorem av_is_signs_values (T : Tx w K mg) (c : Tc K) (h : Here K mg "is_signs_values" "is_signs" s_is_signs_values) : Av P w K mg base "is_signs_values" 1 ["value", "many"] spIsSigns := by
  refine av_mk h sc_is_signs_values (fun _ _ _ _ _ _ us hl => match us, hl with | [_, _], _ => rfl) (fun vs H Q E hs => ?_) (fun f cdv A outer s H vs Q E hr hs => ?_)
  · obtain ⟨l, rfl, _⟩ := hs
    rfl
  obtain ⟨l, rfl, hl, hq⟩ := hs
  refine ⟨_, (pss_one (ps_ret (pe_and (pe_callB (isi_K (K := K) rfl) (by rfl) T.isinstance (by decide +kernel) (pa_cons (pv 0) (pa_cons (pe_bltn (v := .ty "str") (by rfl) T.str_ (by decide +kernel) rfl) pa_nil))) (pe_and (pe_cmpR op_eq (pe_callB (call_lenK (K := K) rfl) (by rfl) T.len PySem.boot_len (pa_cons (pv 0) pa_nil)) (pv 1) (nomark _)) (pe_one (pe_callB (all_K (K := K) rfl rfl) (by rfl) T.all (by decide +kernel) (pa_cons (pe_lc (own := [("sign", 2)]) (g := gName 2) (by rfl) sc_is_signs_values.nd (pi_str (pv 0)) (blkOk_by (own := [("sign", 2)]) (N := ["value", "many", "sign"]) (sc := (defScope s_is_signs_values)) (by decide +kernel)) (fun _ _ _ _ _ => (pg_name (i := 2) sc_is_signs_values.nd rfl (Or.inl rfl))) (fun _ _ _ _ _ => pts_nil) (fun _ _ _ _ _ => (pe_cmpR op_in_sign (pv 2) pe_str (by rfl)))) pa_nil))))))), ?_⟩
  have hz : l.length ≤ sizeLine := by rw [sizeLine_eq]; omega
  walk_at "go"
  intro D hD
  refine lc_pure walk_str (fun i => (List.replicate i true).map V.bl) hD rfl (fun _ _ => trivial) (fun i hi => ?_) ?_ ?_
  · have hi2 : i < (tx l).length := hi
    rw [tx_len] at hi2
    rw [List.length_map, List.length_replicate]
    omega
  · rintro i x H1 H2 hi e1 ⟨rfl, c, hc, rfl⟩ Ky K0 hy h0
    have hi2 : i < l.length := by
      have : i < (tx l).length := hi
      rwa [tx_len] at this
    have hc2 : c = sg l[i] := by
      rw [tx_ix, List.getElem?_eq_getElem hi2] at hc
      exact (Option.some.inj hc).symm
    subst hc2
    refine ⟨rfl, ?_⟩
    walk_at "go"
    rw [sign_in]
    exact hy _ _ Ext.refl (by rw [List.replicate_succ', List.map_append]; rfl)
  · intro H1 e1 hD1
    refine ⟨_, _, rfl, sqL_of hD1, ?_⟩
    rw [all_tt]
    exact hq _ e1
theorem sc_is_signs_checker : FnScope ["value", "many"] ["value", "many"] (defScope s_is_signs_checker) := ⟨rfl, rfl, rfl, by decide +kernel, rfl, by decide +kernel, by decide +kernel⟩
theorem av_is_signs_checker (T : Tx w K mg) (c : Tc K) (h : Here K mg "is_signs_checker" "is_signs" s_is_signs_checker) : Av P w K mg base "is_signs_checker" 1 ["value", "many"] spIsSigns := by
  refine av_mk h sc_is_signs_checker (fun _ _ _ _ _ _ us hl => match us, hl with | [_, _], _ => rfl) (fun vs H Q E hs => ?_) (fun f cdv A outer s H vs Q E hr hs => ?_)
  · obtain ⟨l, rfl, _⟩ := hs
    rfl
  obtain ⟨l, rfl, hl, hq⟩ := hs
  refine ⟨_, (pss_one (ps_ret (pe_and (pe_callB (isi_K (K := K) rfl) (by rfl) T.isinstance (by decide +kernel) (pa_cons (pv 0) (pa_cons (pe_bltn (v := .ty "str") (by rfl) T.str_ (by decide +kernel) rfl) pa_nil))) (pe_and (pe_cmpR op_eq (pe_callB (call_lenK (K := K) rfl) (by rfl) T.len PySem.boot_len (pa_cons (pv 0) pa_nil)) (pv 1) (nomark _)) (pe_one (pe_cmpR op_eq (pe_op op_add (pe_bm PySem.F.plainAttrs_str PySem.F.slot_str_count PySem.F.type_str_count mt_count (pv 0) (pa_cons pe_str pa_nil)) (pe_bm PySem.F.plainAttrs_str PySem.F.slot_str_count PySem.F.type_str_count mt_count (pv 0) (pa_cons pe_str pa_nil))) (pv 1) (nomark _))))))), ?_⟩
  have hz : l.length ≤ sizeLine := by rw [sizeLine_eq]; omega
  have ho := ones_le l
  walk_at "go"
  rw [count0, count1]
  have e : decide (V.int (((l.length - ones l : Nat) : Int) + ((ones l : Nat) : Int)) = V.int ((l.length : Nat) : Int)) = true := decide_eq_true (congrArg V.int (by omega))
  rw [e]
  exact hq _ Ext.refl
def spIsWay : Sp := fun vs H Q _ => ∃ s : Str, vs = [.str s] ∧ inV (.str s) (ws full) = true ∧ Q (.bl true) H
theorem sc_is_way : FnScope ["value"] ["value"] (defScope s_is_way) := ⟨rfl, rfl, rfl, by decide +kernel, rfl, by decide +kernel, by decide +kernel⟩
theorem av_is_way (T : Tx w K mg) (c : Tc K) (h : Here K mg "is_way" "is_way" s_is_way) : Av P w K mg base "is_way" 1 ["value"] spIsWay := by
  refine av_mk h sc_is_way (fun _ _ _ _ _ _ us hl => match us, hl with | [_], _ => rfl) (fun vs H Q E hs => ?_) (fun f cdv A outer s H vs Q E hr hs => ?_)
  · obtain ⟨l, rfl, _⟩ := hs
    rfl
  obtain ⟨l, rfl, hl, hq⟩ := hs
  refine ⟨_, (pss_one (ps_ret (pe_and (pe_callB (isi_K (K := K) rfl) (by rfl) T.isinstance (by decide +kernel) (pa_cons (pv 0) (pa_cons (pe_bltn (v := .ty "str") (by rfl) T.str_ (by decide +kernel) rfl) pa_nil))) (pe_one (pe_cmpR (op_inK (K := K) rfl) (pv 0) (pe_globR (by rfl) T.WAYS_values) (by rfl)))))), ?_⟩
  walk_at "go"
  refine ⟨_, _, rfl, .inr (T.wv_ok _), rfl, ws_flat full, ?_⟩
  rw [hl]
  exact hq
def spCheckWay : Sp := fun vs H Q _ => ∃ s : Str, vs = [.str s] ∧ inV (.str s) (ws full) = true ∧ Q .non H
theorem sc_check_way : FnScope ["way"] ["way"] (defScope s_check_way) := ⟨rfl, rfl, rfl, by decide +kernel, rfl, by decide +kernel, by decide +kernel⟩
theorem av_check_way (T : Tx w K mg) (c : Tc K) (h : Here K mg "check_way" "check_way" s_check_way) (A_is_way : Av P w K mg base "is_way" 1 ["value"] spIsWay) : Av P w K mg base "check_way" 2 ["way"] spCheckWay := by
  refine av_mk h sc_check_way (fun _ _ _ _ _ _ us hl => match us, hl with | [_], _ => rfl) (fun vs H Q E hs => ?_) (fun f cdv A outer s H vs Q E hr hs => ?_)
  · obtain ⟨l, rfl, _⟩ := hs
    rfl
  obtain ⟨l, rfl, hl, hq⟩ := hs
  refine ⟨_, (pss_one (ps_if (pt_not (pt_val (pe_callV (A_is_way.mono (by decide)) hr (by rfl) (pa_cons (pv 0) pa_nil)))) (pss_one ps_never) pss_nil)), ?_⟩
  walk_at "go"
  exact hq
def spCheckSw : Sp := fun vs H Q _ => ∃ i : Int, vs = [.int i] ∧ 1 ≤ i ∧ Q .non H
theorem sc_check_switches : FnScope ["switches"] ["switches"] (defScope s_check_switches) := ⟨rfl, rfl, rfl, by decide +kernel, rfl, by decide +kernel, by decide +kernel⟩
theorem av_check_switches (T : Tx w K mg) (c : Tc K) (h : Here K mg "check_switches" "check_switches" s_check_switches) (A_is_integer_values : Av P w K mg base "is_integer_values" 1 ["value"] spIsInt) : Av P w K mg base "check_switches" 2 ["switches"] spCheckSw := by
  refine av_mk h sc_check_switches (fun _ _ _ _ _ _ us hl => match us, hl with | [_], _ => rfl) (fun vs H Q E hs => ?_) (fun f cdv A outer s H vs Q E hr hs => ?_)
  · obtain ⟨l, rfl, _⟩ := hs
    rfl
  obtain ⟨l, rfl, hl, hq⟩ := hs
  refine ⟨_, (pss_one (ps_if (PW.pt (pw_or (pt_not (pt_val (pe_callV (A_is_integer_values.mono (by decide)) hr (by rfl) (pa_cons (pv 0) pa_nil)))) (pw_or1 (pt_cmpR op_lt (pv 0) pe_int (nomark _))))) (pss_one ps_never) pss_nil)), ?_⟩
  walk_at "go"
  exact hq
def spCheckFew : Sp := fun vs H Q _ => ∃ i : Int, vs = [.int i] ∧ 1 ≤ i ∧ i ≤ 64 ∧ Q .non H
theorem sc_check_few_switches : FnScope ["switches"] ["switches"] (defScope s_check_few_switches) := ⟨rfl, rfl, rfl, by decide +kernel, rfl, by decide +kernel, by decide +kernel⟩
theorem av_check_few_switches (T : Tx w K mg) (c : Tc K) (h : Here K mg "check_few_switches" "check_few_switches" s_check_few_switches) (A_check_switches : Av P w K mg base "check_switches" 2 ["switches"] spCheckSw) : Av P w K mg base "check_few_switches" 3 ["switches"] spCheckFew := by
  refine av_mk h sc_check_few_switches (fun _ _ _ _ _ _ us hl => match us, hl with | [_], _ => rfl) (fun vs H Q E hs => ?_) (fun f cdv A outer s H vs Q E hr hs => ?_)
  · obtain ⟨l, rfl, _⟩ := hs
    rfl
  obtain ⟨l, rfl, hl, hl2, hq⟩ := hs
  refine ⟨_, (pss_cons (ps_expr (pe_callV (A_check_switches.mono (by decide)) hr (by rfl) (pa_cons (pv 0) pa_nil)))
    (pss_one (ps_if (pt_cmpR op_gt (pv 0) (pe_globI (by rfl) T.MOST_SWITCHES) (nomark _)) (pss_one ps_never) pss_nil))), ?_⟩
  walk_at "go"
  exact hq
def spCheckAsked : Sp := fun vs H Q _ => ∃ i : Int, vs = [.int i] ∧ 1 ≤ i ∧ i ≤ 10 ^ 40 ∧ Q .non H
theorem sc_check_asked : FnScope ["switches"] ["switches"] (defScope s_check_asked) := ⟨rfl, rfl, rfl, by decide +kernel, rfl, by decide +kernel, by decide +kernel⟩
theorem av_check_asked (T : Tx w K mg) (c : Tc K) (h : Here K mg "check_asked" "check_asked" s_check_asked) (A_check_switches : Av P w K mg base "check_switches" 2 ["switches"] spCheckSw) : Av P w K mg base "check_asked" 3 ["switches"] spCheckAsked := by
  refine av_mk h sc_check_asked (fun _ _ _ _ _ _ us hl => match us, hl with | [_], _ => rfl) (fun vs H Q E hs => ?_) (fun f cdv A outer s H vs Q E hr hs => ?_)
  · obtain ⟨l, rfl, _⟩ := hs
    rfl
  obtain ⟨l, rfl, hl, hl2, hq⟩ := hs
  refine ⟨_, (pss_cons (ps_expr (pe_callV (A_check_switches.mono (by decide)) hr (by rfl) (pa_cons (pv 0) pa_nil)))
    (pss_one (ps_if (pt_cmpR op_gt (pv 0) (pe_globI (by rfl) T.MOST_ASKED_demands) (nomark _)) (pss_one ps_never) pss_nil))), ?_⟩
  walk_at "go"
  exact hq
end
end FwW
end
section
set_option Elab.async false
set_option linter.all false
set_option maxRecDepth 100000
set_option maxHeartbeats 4000000
namespace FwW
open PySem PySem.Spec PyProof.Rows L2 FwR FwH Fw
local macro_rules | `(tactic| walk_at "go") => `(tactic| (repeat (first | refine ⟨_, rfl, ?_⟩ | refine ⟨_, _, rfl, rfl, ?_⟩ | refine ⟨_, _, rfl, lenTx (by assumption), ?_⟩ | refine ⟨_, _, rfl, ?_⟩ | refine ⟨_, _, _, rfl, ?_⟩ | refine ⟨Or.inl ⟨by omega, by omega⟩, ?_⟩ | refine ⟨Or.inr ⟨by omega, by omega⟩, ?_⟩ | refine ⟨⟨by omega, by omega⟩, ?_⟩ | refine ⟨(rfl : ("str" : String) = "str"), ?_⟩ | refine ⟨_, _, rfl, sqT_new, rfl, ?_⟩ | refine ⟨_, _, rfl, sqT_of (by assumption), rfl, ?_⟩ | refine ⟨⟨_, rfl⟩, ?_⟩ | refine And.intro scS ?_ | refine And.intro scI ?_ | refine And.intro (short (Nat.le_of_ble_eq_true rfl)) ?_ | refine ⟨_, _, rfl, .inr (by assumption), rfl, ws_flat _, ?_⟩ | refine ⟨_, _, rfl, lenT (by assumption), ?_⟩ | refine ⟨_, _, rfl, lenL (by assumption), ?_⟩ | refine And.intro (by omega) ?_ | refine ⟨_, _, _, _, _, rfl, .ty _, .base (.int _), kit_ii, ?_⟩ | refine ⟨_, _, _, _, _, rfl, .ty _, .base (.int _), kit_ib, ?_⟩ | refine ⟨_, _, _, _, _, rfl, .ty _, .base (.str _), kit_ss, ?_⟩ | refine ⟨_, _, _, _, _, rfl, .ty _, .base (.bl _), kit_bb, ?_⟩ | refine ⟨_, _, _, _, _, rfl, .ty _, ty_t (by assumption), kit_tt, ?_⟩ | refine iteT ?_ | refine iteF ?_ | refine eT (by omega) ?_ | refine eF (by omega) ?_ | refine nT (by omega) ?_ | refine nF (by omega) ?_ | refine dT (by omega) ?_ | refine dF (by omega) ?_)))
section
variable {P : Program} {w : World} {K : PySem.W.Frag} {mg : Str → Option Value} {base : Heap}
def spSides (K : PySem.W.Frag) : Sp := fun vs H Q _ => ∃ (a : Addr) (x : Dm), vs = [.ref a] ∧ Wt K H a x ∧ ∀ H' p, Ext H H' → H' p = some (.tup [.int (x.apart : Nat), .int (x.same : Nat)]) → Q (.ref p) H'
/-- the first i ways that are apart -/
def apartW (x : Dm) (i : Nat) : List V := ((ws x).take i).filter fun v => inV v [.str "01", .str "10"]
theorem apartW_all (x : Dm) : (apartW x (ws x).length).length = x.apart := by obtain ⟨a, b, c, d⟩ := x; cases a <;> cases b <;> cases c <;> cases d <;> decide
theorem apartW_le (x : Dm) (i : Nat) : (apartW x i).length < sizeLine := by
  have h1 : (apartW x i).length ≤ ((ws x).take i).length := List.length_filter_le _ _
  have h2 : ((ws x).take i).length ≤ (ws x).length := by rw [List.length_take]; omega
  have h3 := ws_len x
  have h4 := x.apart_le
  have h5 := x.same_le
  rw [sizeLine_eq]
  omega
theorem ws_flat1 {x : Dm} {i : Nat} {v : V} (h : (ws x)[i]? = some v) : flatV v = true := List.all_eq_true.mp (ws_flat x) v (List.mem_of_getElem? h)
theorem sc_sides_of : FnScope ["ways", "apart", "way"] ["ways"] (defScope s_sides_of) := ⟨rfl, rfl, rfl, by decide +kernel, rfl, by decide +kernel, by decide +kernel⟩
theorem av_sides_of (T : Tx w K mg) (c : Tc K) (h : Here K mg "sides_of" "sides_of" s_sides_of) : Av P w K mg base "sides_of" 1 ["ways"] (spSides K) := by
  refine av_mk h sc_sides_of (fun _ _ _ _ _ _ us hl => match us, hl with | [_], _ => rfl) (fun vs H Q E hs => ?_) (fun f cdv A outer s H vs Q E hr hs => ?_)
  · obtain ⟨a, x, rfl, _⟩ := hs
    rfl
  obtain ⟨a, x, rfl, hW, hq⟩ := hs
  refine ⟨_, (pss_cons (ps_set (i := 1) sc_sides_of.nd rfl (Or.inl rfl) (pe_callB (call_lenK (K := K) rfl) (by rfl) T.len PySem.boot_len (pa_cons (pe_lc (own := [("way", 2)]) (g := gName 2) (by rfl) sc_sides_of.nd (pi_tupK (K := K) rfl (pv 0)) (blkOk_by (own := [("way", 2)]) (N := ["ways", "apart", "way"]) (sc := (defScope s_sides_of)) (by decide +kernel)) (fun _ _ _ _ _ => (pg_name (i := 2) sc_sides_of.nd rfl (Or.inl rfl))) (fun _ _ _ _ _ => (pts_one (pt_cmpR (op_inK (K := K) rfl) (pv 2) (pe_tup (pa_cons pe_str (pa_cons pe_str pa_nil))) (by rfl)))) (fun _ _ _ _ _ => (pv 2))) pa_nil)))
    (pss_one (ps_ret (pe_tup (pa_cons (pv 1) (pa_cons (pe_op op_sub (pe_callB (call_lenK (K := K) rfl) (by rfl) T.len PySem.boot_len (pa_cons (pv 0) pa_nil)) (pv 1)) pa_nil)))))), ?_⟩
  walk_at "go"
  refine ⟨⟨_, hW⟩, fun D hD => ?_⟩
  refine lc_pure walk_tup (fun i => apartW x i) hD rfl (fun _ e => e.wt hW) (fun i hi => apartW_le x i) ?_ ?_
  · rintro i v H1 H2 hi e1 ⟨rfl, hv⟩ Ky K0 hy h0
    refine ⟨rfl, ?_⟩
    walk_at "go"
    intro p hp
    refine ⟨_, _, rfl, .inr sqT_new, ws_flat1 hv, rfl, ?_⟩
    have e2 : Ext H2 (upd H2 p (.tup [.str "01", .str "10"])) := Ext.new hp
    have ea : apartW x (i + 1) = apartW x i ++ (if inV v [.str "01", .str "10"] = true then [v] else []) := filter_next hv
    walk_at "go"
    refine b2 (fun hb => ?_) (fun hb => ?_)
    · walk_at "go"
      exact hy _ _ e2 (by rw [ea]; exact congrArg _ (if_pos hb))
    · exact h0 _ e2 (by rw [ea]; exact (congrArg _ (if_neg (by rw [show inV v [.str "01", .str "10"] = false from hb]; decide))).trans (List.append_nil _))
  · intro H1 e1 hD1
    have hL := sqL_of (K := K) hD1
    have hW1 := e1.wt hW
    walk_at "go"
    rw [apartW_all, ws_len]
    walk_at "go"
    intro p hp
    have e : ((x.apart + x.same : Nat) : Int) - ((x.apart : Nat) : Int) = ((x.same : Nat) : Int) := by omega
    have hf := hq (upd H1 p (.tup [.int (x.apart : Nat), .int (x.same : Nat)])) p (e1.trans (Ext.new hp)) upd_same
    rw [← e] at hf
    exact hf
def mostV (x : Dm) (n : Nat) : V := match most x n with
  | none => .non
  | some m => .int (m : Nat)
def spMost (K : PySem.W.Frag) : Sp := fun vs H Q _ => ∃ (a : Addr) (x : Dm) (n : Nat), vs = [.ref a, .int n] ∧ Wt K H a x ∧ n ≤ 1000 ∧ ∀ H', Ext H H' → Q (mostV x n) H'
theorem max_nat {a b : Nat} : (if ((b : Nat) : Int) > ((a : Nat) : Int) then ((b : Nat) : Int) else ((a : Nat) : Int)) = ((max a b : Nat) : Int) := by
  by_cases h : a < b
  · rw [if_pos (by omega), Nat.max_eq_right (by omega)]
  · rw [if_neg (by omega), Nat.max_eq_left (by omega)]
theorem all_nat (n : Nat) : (if binI ((n : Int) - 1) ((n : Int) / 2 - 1) > 1 then binI ((n : Int) - 1) ((n : Int) / 2 - 1) else 1) = ((max 1 (C (n - 1) (n / 2 - 1)) : Nat) : Int) := by
  by_cases h : 2 ≤ n
  · have e1 : (n : Int) - 1 = ((n - 1 : Nat) : Int) := by omega
    have e2 : (n : Int) / 2 - 1 = ((n / 2 - 1 : Nat) : Int) := by omega
    rw [e1, e2, binI_nat]
    exact max_nat (a := 1)
  · have e : n = 0 ∨ n = 1 := by omega
    rcases e with rfl | rfl
    · decide
    · decide
theorem sc_most_of : FnScope ["ways", "trials", "apart", "same"] ["ways", "trials"] (defScope s_most_of) := ⟨rfl, rfl, rfl, by decide +kernel, rfl, by decide +kernel, by decide +kernel⟩
theorem av_most_of (T : Tx w K mg) (c : Tc K) (h : Here K mg "most_of" "most_of" s_most_of) (A_sides_of : Av P w K mg base "sides_of" 1 ["ways"] (spSides K)) (A_doubled : Av P w K mg base "doubled" 1 ["times"] spDoubled) (A_binomial : Av P w K mg base "binomial" 1 ["many", "some"] spBin) : Av P w K mg base "most_of" 2 ["ways", "trials"] (spMost K) := by
  refine av_mk h sc_most_of (fun _ _ _ _ _ _ us hl => match us, hl with | [_, _], _ => rfl) (fun vs H Q E hs => ?_) (fun f cdv A outer s H vs Q E hr hs => ?_)
  · obtain ⟨a, x, n, rfl, _⟩ := hs
    rfl
  obtain ⟨a, x, n, rfl, hW, hn, hq⟩ := hs
  refine ⟨_, (pss_cons (ps_asg (pe_callV (A_sides_of.mono (by decide)) hr (by rfl) (pa_cons (pv 0) pa_nil)) (pg_tupK (K := K) (n := 2) rfl rfl (pgs_cons (pg_name (i := 2) sc_most_of.nd rfl (Or.inl rfl)) (pgs_cons (pg_name (i := 3) sc_most_of.nd rfl (Or.inl rfl)) pgs_nil))))
    (pss_cons (ps_if (pt_cmpR op_eq (pv 2) pe_int (nomark _)) (pss_one (ps_ret (pe_ifExp (pt_cmpR op_ge (pv 1) (pv 3) (nomark _)) pe_non pe_int))) pss_nil)
    (pss_cons (ps_if (pt_cmpR op_eq (pv 2) pe_int (nomark _)) (pss_one (ps_ret (pe_callV (A_doubled.mono (by decide)) hr (by rfl) (pa_cons (pe_callB (call_max2 rfl) (by rfl) T.max (by decide +kernel) (pa_cons pe_int (pa_cons (pe_op op_sub (pv 1) (pv 3)) pa_nil))) pa_nil)))) pss_nil)
    (pss_cons (ps_if (pt_cmpR op_eq (pv 3) pe_int (nomark _)) (pss_one (ps_ret (pe_callB (call_max2 rfl) (by rfl) T.max (by decide +kernel) (pa_cons pe_int (pa_cons (pe_callV (A_binomial.mono (by decide)) hr (by rfl) (pa_cons (pe_op op_sub (pv 1) pe_int) (pa_cons (pe_op op_sub (pe_op op_fdiv (pv 1) pe_int) pe_int) pa_nil))) pa_nil))))) pss_nil)
    (pss_one (ps_ret (pe_callB (call_max2 rfl) (by rfl) T.max (by decide +kernel) (pa_cons pe_int (pa_cons (pe_callV (A_binomial.mono (by decide)) hr (by rfl) (pa_cons (pv 1) (pa_cons (pe_op op_add (pe_op op_fdiv (pv 1) pe_int) (pv 3)) pa_nil))) pa_nil))))))))), ?_⟩
  walk_at "go"
  refine ⟨_, x, rfl, hW, fun H1 p e1 hp => ?_⟩
  walk_at "go"
  have hq1 := hq H1 e1
  have ha := x.apart_le
  have hs2 := x.same_le
  unfold mostV most at hq1
  by_cases h0 : x.apart = 0
  · rw [if_pos h0] at hq1
    refine eT (by omega) ?_
    walk_at "go"
    refine d2 (fun h1 => ?_) (fun h1 => ?_)
    · rw [if_pos (by omega)] at hq1
      exact hq1
    · rw [if_neg (by omega)] at hq1
      exact hq1
  rw [if_neg h0] at hq1
  refine eF (by omega) ?_
  walk_at "go"
  by_cases h1 : x.apart = 1
  · rw [if_pos h1] at hq1
    refine eT (by omega) ?_
    walk_at "go"
    have e : (if (n : Int) - (x.same : Nat) > 0 then (n : Int) - (x.same : Nat) else 0).toNat = n - x.same := by split <;> omega
    rw [e]
    exact hq1
  rw [if_neg h1] at hq1
  refine eF (by omega) ?_
  walk_at "go"
  by_cases h2 : x.same = 2
  · rw [if_pos h2] at hq1
    refine eT (by omega) ?_
    walk_at "go"
    rw [all_nat]
    exact hq1
  rw [if_neg h2] at hq1
  refine eF (by omega) ?_
  walk_at "go"
  have e : (n : Int) / 2 + ((x.same : Nat) : Int) = ((n / 2 + x.same : Nat) : Int) := by omega
  have e3 : (if ((C n (n / 2 + x.same) : Nat) : Int) > 1 then ((C n (n / 2 + x.same) : Nat) : Int) else 1) = ((max 1 (C n (n / 2 + x.same)) : Nat) : Int) := max_nat (a := 1)
  rw [e, binI_nat, e3]
  exact hq1
def spFewest (K : PySem.W.Frag) : Sp := fun vs H Q _ => ∃ (a : Addr) (x : Dm) (k : Nat), vs = [.ref a, .int k] ∧ Wt K H a x ∧ ∀ H', Ext H H' → Q (.int ((fewest x k : Nat) : Int)) H'
def stepsN : List Nat := [128, 64, 32, 16, 8, 4, 2, 1]
def stepsV : List V := stepsN.map fun s => V.int ((s : Nat) : Int)
theorem stepF_few {x : Dm} {k t s : Nat} (h : few x k (t + s - 1) = true) : stepF x k t s = t + s := if_pos h
theorem stepF_enough {x : Dm} {k t s : Nat} (h : few x k (t + s - 1) = false) : stepF x k t s = t := if_neg (by rw [h]; decide)
theorem sc_fewest_of : FnScope ["ways", "switches", "trials", "step", "most"] ["ways", "switches"] (defScope s_fewest_of) := ⟨rfl, rfl, rfl, by decide +kernel, rfl, by decide +kernel, by decide +kernel⟩
theorem av_fewest_of (T : Tx w K mg) (c : Tc K) (h : Here K mg "fewest_of" "fewest_of" s_fewest_of) (A_most_of : Av P w K mg base "most_of" 2 ["ways", "trials"] (spMost K)) : Av P w K mg base "fewest_of" 3 ["ways", "switches"] (spFewest K) := by
  refine av_mk h sc_fewest_of (fun _ _ _ _ _ _ us hl => match us, hl with | [_, _], _ => rfl) (fun vs H Q E hs => ?_) (fun f cdv A outer s H vs Q E hr hs => ?_)
  · obtain ⟨a, x, n, rfl, _⟩ := hs
    rfl
  obtain ⟨a, x, k, rfl, hW, hq⟩ := hs
  refine ⟨_, (pss_cons (ps_set (i := 2) sc_fewest_of.nd rfl (Or.inl rfl) pe_int)
    (pss_cons (ps_for PassesOwn.never rfl (pi_tupK (K := K) rfl (pe_tup (pa_cons pe_int (pa_cons pe_int (pa_cons pe_int (pa_cons pe_int (pa_cons pe_int (pa_cons pe_int (pa_cons pe_int (pa_cons pe_int pa_nil)))))))))) (pg_name (i := 3) sc_fewest_of.nd rfl (Or.inl rfl))
    (pss_cons (ps_set (i := 4) sc_fewest_of.nd rfl (Or.inl rfl) (pe_callV (A_most_of.mono (by decide)) hr (by rfl) (pa_cons (pv 0) (pa_cons (pe_op op_sub (pe_op op_add (pv 2) (pv 3)) pe_int) pa_nil))))
    (pss_one (ps_if (PW.pt (pw_and (pt_cmp (pc_notN (pv 4))) (pw_and1 (pt_cmpR op_lt (pv 4) (pv 1) (nomark _))))) (pss_one (ps_set (i := 2) sc_fewest_of.nd rfl (Or.inl rfl) (pe_op op_add (pv 2) (pv 3)))) pss_nil))))
    (pss_one (ps_ret (pv 2))))), ?_⟩
  walk_at "go"
  intro p hp
  walk_at "go"
  have hT : SqT K (upd H p (.tup stepsV)) p stepsV := sqT_new
  refine ⟨⟨_, hT⟩, ?_⟩
  refine for_it walk_tup (fun i σ H' => Ext (upd H p (.tup stepsV)) H' ∧ ∃ (t : Nat) (b c : Option V), t = (stepsN.take i).foldl (stepF x k) 0 ∧ t + (stepsN.drop i).sum ≤ 255 ∧
    σ = [some (.ref a), some (.int (k : Nat)), some (.int (t : Nat)), b, c]) ⟨Ext.refl, 0, _, _, rfl, by decide, rfl⟩ (fun i σ H' _ h => h.1.sqT hT) ?_ ?_
  · rintro i v σ H1 H2 hi ⟨e1, t, b, c, ht, hb, rfl⟩ ⟨rfl, hv⟩
    have hi2 : i < stepsN.length := hi
    have hd : stepsN.drop i = stepsN[i] :: stepsN.drop (i + 1) := List.drop_eq_getElem_cons hi2
    have htk : stepsN.take (i + 1) = stepsN.take i ++ [stepsN[i]] := by rw [List.take_add_one, List.getElem?_eq_getElem hi2]; rfl
    have hv2 : v = .int ((stepsN[i] : Nat) : Int) := by
      have : (stepsN[i]?).map (fun s => V.int ((s : Nat) : Int)) = some v := by rw [← List.getElem?_map]; exact hv
      rw [List.getElem?_eq_getElem hi2] at this
      exact (Option.some.inj this).symm
    have hpos : 0 < stepsN[i] := by
      have : ∀ s ∈ stepsN, 0 < s := by decide
      exact this _ (List.getElem_mem hi2)
    subst hv2
    rw [hd, List.sum_cons] at hb
    have hfold : (stepsN.take (i + 1)).foldl (stepF x k) 0 = stepF x k t stepsN[i] := by
      rw [htk, List.foldl_append, ← ht]; rfl
    generalize stepsN[i] = s at hpos hb hfold
    have hW1 : Wt K H2 a x := ((Ext.new hp).trans e1).wt hW
    walk_at "go"
    have e5 : (t : Int) + (s : Int) - 1 = ((t + s - 1 : Nat) : Int) := by omega
    refine ⟨_, x, t + s - 1, by rw [← e5], hW1, by omega, fun H3 e3 => ?_⟩
    have e13 := e1.trans e3
    walk_at "go"
    cases hm : most x (t + s - 1) with
    | none =>
      have h1 : mostV x (t + s - 1) = .non := by unfold mostV; rw [hm]
      have h2 : few x k (t + s - 1) = false := by unfold few; rw [hm]
      rw [h1]
      refine ntF rfl ?_
      walk_at "go"
      exact ⟨t, some (.int (s : Nat)), some .non, by rw [hfold, stepF_enough h2], by omega, rfl⟩
    | some m =>
      have h1 : mostV x (t + s - 1) = .int (m : Nat) := by unfold mostV; rw [hm]
      have h2 : few x k (t + s - 1) = decide (m < k) := by unfold few; rw [hm]
      rw [h1]
      refine ntT (fun z => by cases z) ?_
      walk_at "go"
      refine d2 (fun h3 => ?_) (fun h3 => ?_)
      · walk_at "go"
        exact ⟨t + s, some (.int (s : Nat)), some (.int (m : Nat)), by rw [hfold, stepF_few (by rw [h2]; exact decide_eq_true (by omega))], by omega, rfl⟩
      · walk_at "go"
        exact ⟨t, some (.int (s : Nat)), some (.int (m : Nat)), by rw [hfold, stepF_enough (by rw [h2]; exact decide_eq_false (by omega))], by omega, rfl⟩
  · rintro σ H1 ⟨e1, t, b, c, ht, hb, rfl⟩
    walk_at "go"
    have hf := hq H1 ((Ext.new hp).trans e1)
    have e : fewest x k = t := ht.symm
    rw [e] at hf
    exact hf
def spHead (K : PySem.W.Frag) : Sp := fun vs H Q _ => ∃ (a : Addr) (x : Dm), vs = [.ref a] ∧ Wt K H a x ∧ Q (.str (tx x.head)) H
theorem sc_head_of : FnScope ["ways"] ["ways"] (defScope s_head_of) := ⟨rfl, rfl, rfl, by decide +kernel, rfl, by decide +kernel, by decide +kernel⟩
theorem av_head_of (T : Tx w K mg) (c : Tc K) (h : Here K mg "head_of" "head_of" s_head_of) : Av P w K mg base "head_of" 1 ["ways"] (spHead K) := by
  refine av_mk h sc_head_of (fun _ _ _ _ _ _ us hl => match us, hl with | [_], _ => rfl) (fun vs H Q E hs => ?_) (fun f cdv A outer s H vs Q E hr hs => ?_)
  · obtain ⟨a, x, rfl, _⟩ := hs
    rfl
  obtain ⟨a, x, rfl, hW, hq⟩ := hs
  refine ⟨_, (pss_one (ps_ret (pe_op op_add_str (pe_ifExp (pt_cmpR (op_inK (K := K) rfl) pe_str (pv 0) (by rfl)) pe_str pe_str) (pe_ifExp (pt_cmpR (op_inK (K := K) rfl) pe_str (pv 0) (by rfl)) pe_str pe_str)))), ?_⟩
  walk_at "go"
  obtain ⟨xa, xb, xc, xd⟩ := x
  rw [in11]
  cases xd with
  | true =>
    walk_at "go"
    rw [in00]
    cases xa with
    | true =>
      walk_at "go"
      exact hq
    | false =>
      walk_at "go"
      exact hq
  | false =>
    walk_at "go"
    rw [in00]
    cases xa with
    | true =>
      walk_at "go"
      exact hq
    | false =>
      walk_at "go"
      exact hq
def spOnes (K : PySem.W.Frag) : Sp := fun vs H Q _ => ∃ (a : Addr) (x : Dm) (n : Nat), vs = [.ref a, .int n] ∧ Wt K H a x ∧ Q (.int (if x.d = true then (n : Int) / 2 + 1 else if x.a = true then (n : Int) - (n : Int) / 2 - 1 else (n : Int) / 2)) H
theorem sc_ones_of : FnScope ["ways", "trials"] ["ways", "trials"] (defScope s_ones_of) := ⟨rfl, rfl, rfl, by decide +kernel, rfl, by decide +kernel, by decide +kernel⟩
theorem av_ones_of (T : Tx w K mg) (c : Tc K) (h : Here K mg "ones_of" "ones_of" s_ones_of) : Av P w K mg base "ones_of" 1 ["ways", "trials"] (spOnes K) := by
  refine av_mk h sc_ones_of (fun _ _ _ _ _ _ us hl => match us, hl with | [_, _], _ => rfl) (fun vs H Q E hs => ?_) (fun f cdv A outer s H vs Q E hr hs => ?_)
  · obtain ⟨a, x, n, rfl, _⟩ := hs
    rfl
  obtain ⟨a, x, n, rfl, hW, hq⟩ := hs
  refine ⟨_, (pss_cons (ps_if (pt_cmpR (op_inK (K := K) rfl) pe_str (pv 0) (by rfl)) (pss_one (ps_ret (pe_op op_add (pe_op op_fdiv (pv 1) pe_int) pe_int))) pss_nil)
    (pss_one (ps_ret (pe_ifExp (pt_cmpR (op_inK (K := K) rfl) pe_str (pv 0) (by rfl)) (pe_op op_sub (pe_op op_sub (pv 1) (pe_op op_fdiv (pv 1) pe_int)) pe_int) (pe_op op_fdiv (pv 1) pe_int))))), ?_⟩
  walk_at "go"
  rw [in11]
  refine b2 (fun hd => ?_) (fun hd => ?_)
  · rw [if_pos hd] at hq
    walk_at "go"
    exact hq
  · rw [if_neg (by rw [hd]; decide)] at hq
    walk_at "go"
    rw [in00]
    refine b2 (fun ha => ?_) (fun ha => ?_)
    · rw [if_pos ha] at hq
      walk_at "go"
      exact hq
    · rw [if_neg (by rw [ha]; decide)] at hq
      walk_at "go"
      exact hq
end
end FwW
end
section
set_option Elab.async false
set_option linter.all false
set_option maxRecDepth 100000
set_option maxHeartbeats 4000000
namespace FwW
open PySem PySem.Spec PyProof.Rows L2 FwR FwH Fw
local macro_rules | `(tactic| walk_at "go") => `(tactic| (repeat (first | refine ⟨_, rfl, ?_⟩ | refine ⟨_, _, rfl, rfl, ?_⟩ | refine ⟨_, _, rfl, lenTx (by assumption), ?_⟩ | refine ⟨_, _, rfl, ?_⟩ | refine ⟨_, _, _, rfl, ?_⟩ | refine ⟨Or.inl ⟨by omega, by omega⟩, ?_⟩ | refine ⟨Or.inr ⟨by omega, by omega⟩, ?_⟩ | refine ⟨⟨by omega, by omega⟩, ?_⟩ | refine ⟨(rfl : ("str" : String) = "str"), ?_⟩ | refine ⟨_, _, rfl, sqT_new, rfl, ?_⟩ | refine ⟨_, _, rfl, sqT_of (by assumption), rfl, ?_⟩ | refine ⟨⟨_, rfl⟩, ?_⟩ | refine And.intro scS ?_ | refine And.intro scI ?_ | refine And.intro (short (Nat.le_of_ble_eq_true rfl)) ?_ | refine ⟨_, _, rfl, .inr (by assumption), rfl, ws_flat _, ?_⟩ | refine ⟨_, _, rfl, lenT (by assumption), ?_⟩ | refine ⟨_, _, rfl, lenL (by assumption), ?_⟩ | refine And.intro (by omega) ?_ | refine ⟨_, _, _, _, _, rfl, .ty _, .base (.int _), kit_ii, ?_⟩ | refine ⟨_, _, _, _, _, rfl, .ty _, .base (.int _), kit_ib, ?_⟩ | refine ⟨_, _, _, _, _, rfl, .ty _, .base (.str _), kit_ss, ?_⟩ | refine ⟨_, _, _, _, _, rfl, .ty _, .base (.bl _), kit_bb, ?_⟩ | refine ⟨_, _, _, _, _, rfl, .ty _, ty_t (by assumption), kit_tt, ?_⟩ | refine iteT ?_ | refine iteF ?_ | refine eT (by omega) ?_ | refine eF (by omega) ?_ | refine nT (by omega) ?_ | refine nF (by omega) ?_ | refine dT (by omega) ?_ | refine dF (by omega) ?_)))
section
variable {P : Program} {w : World} {K : PySem.W.Frag} {mg : Str → Option Value} {base : Heap}
theorem join_ws (x : Dm) : ((wsL x).map (·.length)).sum + (wsL x).length * (" " : Str).length ≤ 16777216 := by obtain ⟨a, b, c, d⟩ := x; cases a <;> cases b <;> cases c <;> cases d <;> decide
def spColumn (K : PySem.W.Frag) : Sp := fun vs H Q _ => ∃ (a : Addr) (x : Dm) (k i : Nat), vs = [.ref a, .int (fewest x k : Nat), .int i] ∧ Wt K H a x ∧ 2 ≤ k ∧ k ≤ limit ∧ i < k ∧ ∀ H', Ext H H' → Q (.str (tx (col x (fewest x k) i))) H'
theorem onesI {x : Dm} {n : Nat} (h : 1 ≤ n) : (if x.d = true then (n : Int) / 2 + 1 else if x.a = true then (n : Int) - (n : Int) / 2 - 1 else (n : Int) / 2) = ((onesN x n : Nat) : Int) := by
  unfold onesN
  obtain ⟨xa, xb, xc, xd⟩ := x
  cases xd
  · cases xa
    · show (n : Int) / 2 = ((n / 2 : Nat) : Int); omega
    · show (n : Int) - (n : Int) / 2 - 1 = ((n - n / 2 - 1 : Nat) : Int); omega
  · show (n : Int) / 2 + 1 = ((n / 2 + 1 : Nat) : Int); omega
theorem pos_of_C {n k r : Nat} (h2 : 2 ≤ k) (h : k ≤ C n r) : 1 ≤ r ∧ r ≤ n := by
  refine ⟨?_, C_le_of_pos (by omega)⟩
  apply Decidable.byContradiction
  intro z
  have : r = 0 := by omega
  rw [this, C_zero] at h
  omega
theorem sc_column_of : FnScope ["ways", "trials", "index", "apart", "same"] ["ways", "trials", "index"] (defScope s_column_of) := ⟨rfl, rfl, rfl, by decide +kernel, rfl, by decide +kernel, by decide +kernel⟩
theorem av_column_of (T : Tx w K mg) (c : Tc K) (h : Here K mg "column_of" "column_of" s_column_of) (A_sides_of : Av P w K mg base "sides_of" 1 ["ways"] (spSides K)) (A_head_of : Av P w K mg base "head_of" 1 ["ways"] (spHead K)) (A_text_by_ones : Av P w K mg base "text_by_ones" 3 ["many", "index", "is_rising"] spTextByOnes) (A_text_with : Av P w K mg base "text_with" 2 ["many", "ones", "index"] spTextWith) (A_ones_of : Av P w K mg base "ones_of" 1 ["ways", "trials"] (spOnes K)) : Av P w K mg base "column_of" 4 ["ways", "trials", "index"] (spColumn K) := by
  refine av_mk h sc_column_of (fun _ _ _ _ _ _ us hl => match us, hl with | [_, _, _], _ => rfl) (fun vs H Q E hs => ?_) (fun f cdv A outer s H vs Q E hr hs => ?_)
  · obtain ⟨a, x, k, i, rfl, _⟩ := hs
    rfl
  obtain ⟨a, x, k, i, rfl, hW, h2, hK, hi, hq⟩ := hs
  refine ⟨_, (pss_cons (ps_asg (pe_callV (A_sides_of.mono (by decide)) hr (by rfl) (pa_cons (pv 0) pa_nil)) (pg_tupK (K := K) (n := 2) rfl rfl (pgs_cons (pg_name (i := 3) sc_column_of.nd rfl (Or.inl rfl)) (pgs_cons (pg_name (i := 4) sc_column_of.nd rfl (Or.inl rfl)) pgs_nil))))
    (pss_cons (ps_if (pt_cmpR op_eq (pv 3) pe_int (nomark _)) (pss_one (ps_ret (pe_ix ix_kdict (pe_globR (by rfl) T.SAME) (pe_joinK (K := K) rfl pe_str (pv 0)) (fun _ _ => rfl)))) pss_nil)
    (pss_cons (ps_if (pt_cmpR op_eq (pv 3) pe_int (nomark _)) (pss_one (ps_ret (pe_op op_add_str (pe_callV (A_head_of.mono (by decide)) hr (by rfl) (pa_cons (pv 0) pa_nil)) (pe_callV (A_text_by_ones.mono (by decide)) hr (by rfl) (pa_cons (pe_op op_sub (pv 1) (pv 4)) (pa_cons (pv 2) (pa_cons (pe_cmpR (op_inK (K := K) rfl) pe_str (pv 0) (by rfl)) pa_nil))))))) pss_nil)
    (pss_cons (ps_if (pt_cmpR op_eq (pv 4) pe_int (nomark _)) (pss_one (ps_ret (pe_op op_add_str pe_str (pe_callV (A_text_with.mono (by decide)) hr (by rfl) (pa_cons (pe_op op_sub (pv 1) pe_int) (pa_cons (pe_op op_sub (pe_op op_fdiv (pv 1) pe_int) pe_int) (pa_cons (pv 2) pa_nil))))))) pss_nil)
    (pss_one (ps_ret (pe_callV (A_text_with.mono (by decide)) hr (by rfl) (pa_cons (pv 1) (pa_cons (pe_callV (A_ones_of.mono (by decide)) hr (by rfl) (pa_cons (pv 0) (pa_cons (pv 1) pa_nil))) (pa_cons (pv 2) pa_nil)))))))))), ?_⟩
  have hN := fewest_le x hK
  walk_at "go"
  refine ⟨_, x, rfl, hW, fun H1 p e1 hp => ?_⟩
  have hW1 := e1.wt hW
  have hq1 := hq H1 e1
  have hap := x.apart_le
  walk_at "go"
  by_cases h0 : x.apart = 0
  · rw [col_free h0] at hq1
    refine eT (by omega) ?_
    walk_at "go"
    walk_at "go"
    refine ⟨_, _, wsL x, rfl, rfl, .inr hW1, join_ws x, ?_⟩
    refine ⟨_, _, _, rfl, rfl, T.same_ok x h0, ?_⟩
    exact hq1
  refine eF (by omega) ?_
  walk_at "go"
  by_cases h1 : x.apart = 1
  · have hf := fewest_one_way hK h1
    have hlt : x.same < fewest x k := by
      apply Decidable.byContradiction
      intro z
      rw [show fewest x k - x.same = 0 by omega] at hf
      omega
    refine eT (by omega) ?_
    walk_at "go"
    refine ⟨_, x, rfl, hW1, ?_⟩
    walk_at "go"
    have e5 : ((fewest x k : Nat) : Int) - ((x.same : Nat) : Int) = ((fewest x k - x.same : Nat) : Int) := by omega
    rw [in01]
    refine ⟨fewest x k - x.same, i, x.b, by rw [← e5], by omega, by omega, ?_⟩
    walk_at "go"
    have e6 := textBy_len (n := fewest x k - x.same) (i := i) x.b (by omega)
    have e7 := x.head_len
    rw [col_one h1, ← tx_app] at hq1
    refine ⟨by rw [tx_len, tx_len, e6, e7, sizeLine_eq]; omega, hq1⟩
  refine eF (by omega) ?_
  walk_at "go"
  have h2a : x.apart = 2 := by omega
  by_cases h3 : x.same = 2
  · have hf := fewest_all hK h2 h2a h3
    obtain ⟨p1, p2⟩ := pos_of_C h2 hf
    refine eT (by omega) ?_
    walk_at "go"
    have e5 : ((fewest x k : Nat) : Int) - 1 = ((fewest x k - 1 : Nat) : Int) := by omega
    have e6 : ((fewest x k : Nat) : Int) / 2 - 1 = ((fewest x k / 2 - 1 : Nat) : Int) := by omega
    refine ⟨fewest x k - 1, fewest x k / 2 - 1, i, by rw [← e5, ← e6], by omega, by omega, ?_⟩
    walk_at "go"
    have e7 := unrank_len (fewest x k - 1) (fewest x k / 2 - 1) i
    rw [col_all h2a h3] at hq1
    have e8 : tx (true :: unrank (fewest x k - 1) (fewest x k / 2 - 1) i) = "1" ++ tx (unrank (fewest x k - 1) (fewest x k / 2 - 1) i) := by rw [tx1, tx_app]; rfl
    rw [e8] at hq1
    refine ⟨by rw [tx1, tx_len, tx_len, e7, sizeLine_eq]; show 1 + _ ≤ _; omega, hq1⟩
  · have hf := fewest_two hK h2 h2a h3
    have hc := C_onesN h3 (by omega : 2 ≤ C (fewest x k) (fewest x k / 2 + x.same))
    obtain ⟨p1, p2⟩ := pos_of_C h2 hf
    refine eF (by omega) ?_
    walk_at "go"
    refine ⟨_, x, _, rfl, hW1, ?_⟩
    rw [onesI (by omega)]
    walk_at "go"
    rw [← col_mid h2a h3]
    exact hq1
def spIndexOf (K : PySem.W.Frag) : Sp := fun vs H Q _ => ∃ (a : Addr) (x : Dm) (k i : Nat), vs = [.ref a, .str (tx (col x (fewest x k) i))] ∧ Wt K H a x ∧ 2 ≤ k ∧ k ≤ limit ∧ i < k ∧ ∀ H', Ext H H' → Q (.int ((if x.apart = 0 then 0 else i : Nat) : Int)) H'
theorem sc_index_of : FnScope ["ways", "column", "apart", "same", "trials", "is_there"] ["ways", "column"] (defScope s_index_of) := ⟨rfl, rfl, rfl, by decide +kernel, rfl, by decide +kernel, by decide +kernel⟩
theorem av_index_of (T : Tx w K mg) (c : Tc K) (h : Here K mg "index_of" "index_of" s_index_of) (A_sides_of : Av P w K mg base "sides_of" 1 ["ways"] (spSides K)) (A_head_of : Av P w K mg base "head_of" 1 ["ways"] (spHead K)) (A_index_by_ones : Av P w K mg base "index_by_ones" 3 ["text", "is_rising"] spIndexByOnes) (A_index_with : Av P w K mg base "index_with" 2 ["text"] spIndexWith) (A_ones_of : Av P w K mg base "ones_of" 1 ["ways", "trials"] (spOnes K)) : Av P w K mg base "index_of" 4 ["ways", "column"] (spIndexOf K) := by
  refine av_mk h sc_index_of (fun _ _ _ _ _ _ us hl => match us, hl with | [_, _], _ => rfl) (fun vs H Q E hs => ?_) (fun f cdv A outer s H vs Q E hr hs => ?_)
  · obtain ⟨a, x, k, i, rfl, _⟩ := hs
    rfl
  obtain ⟨a, x, k, i, rfl, hW, h2, hK, hi, hq⟩ := hs
  refine ⟨_, (pss_cons (ps_asg (pe_callV (A_sides_of.mono (by decide)) hr (by rfl) (pa_cons (pv 0) pa_nil)) (pg_tupK (K := K) (n := 2) rfl rfl (pgs_cons (pg_name (i := 2) sc_index_of.nd rfl (Or.inl rfl)) (pgs_cons (pg_name (i := 3) sc_index_of.nd rfl (Or.inl rfl)) pgs_nil))))
    (pss_cons (ps_set (i := 4) sc_index_of.nd rfl (Or.inl rfl) (pe_callB (call_lenK (K := K) rfl) (by rfl) T.len PySem.boot_len (pa_cons (pv 1) pa_nil)))
    (pss_cons (ps_if (pt_cmpR op_eq (pv 2) pe_int (nomark _)) (pss_one (ps_ret (pe_ifExp (pt_cmpR op_eq (pv 1) (pe_ix ix_kdict (pe_globR (by rfl) T.SAME) (pe_joinK (K := K) rfl pe_str (pv 0)) (fun _ _ => rfl)) (nomark _)) pe_int pe_non))) pss_nil)
    (pss_cons (ps_if (pt_cmpR op_eq (pv 2) pe_int (nomark _)) (pss_one (ps_ret (pe_ifExp (pt_cmpR op_eq (pe_slice sl_str (pv 1) po_none (po_some (pv 3))) (pe_callV (A_head_of.mono (by decide)) hr (by rfl) (pa_cons (pv 0) pa_nil)) (nomark _)) (pe_callV (A_index_by_ones.mono (by decide)) hr (by rfl) (pa_cons (pe_slice sl_str (pv 1) (po_some (pv 3)) po_none) (pa_cons (pe_cmpR (op_inK (K := K) rfl) pe_str (pv 0) (by rfl)) pa_nil))) pe_non))) pss_nil)
    (pss_cons (ps_if (pt_cmpR op_eq (pv 3) pe_int (nomark _)) (pss_cons (ps_set (i := 5) sc_index_of.nd rfl (Or.inl rfl) (pe_and (pe_cmpR op_eq (pe_ix ix_str (pv 1) pe_int (fun _ _ => rfl)) pe_str (nomark _)) (pe_one (pe_cmpR op_eq (pe_bm PySem.F.plainAttrs_str PySem.F.slot_str_count PySem.F.type_str_count mt_count (pv 1) (pa_cons pe_str pa_nil)) (pe_op op_fdiv (pv 4) pe_int) (nomark _)))))
    (pss_one (ps_ret (pe_ifExp (pt_val (pv 5)) (pe_callV (A_index_with.mono (by decide)) hr (by rfl) (pa_cons (pe_slice sl_str (pv 1) (po_some pe_int) po_none) pa_nil)) pe_non)))) pss_nil)
    (pss_one (ps_ret (pe_ifExp (pt_cmpR op_eq (pe_bm PySem.F.plainAttrs_str PySem.F.slot_str_count PySem.F.type_str_count mt_count (pv 1) (pa_cons pe_str pa_nil)) (pe_callV (A_ones_of.mono (by decide)) hr (by rfl) (pa_cons (pv 0) (pa_cons (pv 4) pa_nil))) (nomark _)) (pe_callV (A_index_with.mono (by decide)) hr (by rfl) (pa_cons (pv 1) pa_nil)) pe_non)))))))), ?_⟩
  have hN := fewest_le x hK
  have hlen := col_len (x := x) hK h2 hi
  walk_at "go"
  refine ⟨_, x, rfl, hW, fun H1 p e1 hp => ?_⟩
  have hW1 := e1.wt hW
  have hap := x.apart_le
  generalize hc : col x (fewest x k) i = l at hlen
  have hz : l.length ≤ sizeLine := by rw [hlen, sizeLine_eq]; omega
  walk_at "go"
  by_cases h0 : x.apart = 0
  · have hq1 := hq H1 e1
    rw [if_pos h0] at hq1
    rw [col_free h0] at hc
    refine eT (by omega) ?_
    walk_at "go"
    refine ⟨_, _, wsL x, rfl, rfl, .inr hW1, join_ws x, ?_⟩
    refine ⟨_, _, _, rfl, rfl, T.same_ok x h0, ?_⟩
    rw [← hc]
    walk_at "go"
    refine dT rfl ?_
    walk_at "go"
    exact hq1
  refine eF (by omega) ?_
  rw [if_neg h0] at hq
  walk_at "go"
  by_cases h1 : x.apart = 1
  · have hf := fewest_one_way hK h1
    have hlt : x.same < fewest x k := by
      apply Decidable.byContradiction
      intro z
      rw [show fewest x k - x.same = 0 by omega] at hf
      omega
    rw [col_one h1] at hc
    have e6 := textBy_len (n := fewest x k - x.same) (i := i) x.b (by omega)
    have e7 := x.head_len
    have hib := indexBy_textBy (n := fewest x k - x.same) (i := i) x.b (by omega)
    generalize textBy (fewest x k - x.same) i x.b = t at hc e6 hib
    have et : l.take x.same = x.head := by rw [← hc, ← e7, List.take_left]
    have ed : l.drop x.same = t := by rw [← hc, ← e7, List.drop_left]
    refine eT (by omega) ?_
    walk_at "go"
    refine ⟨by rw [tx_len]; exact hz, ?_⟩
    rw [cut_to, et]
    walk_at "go"
    refine ⟨_, x, rfl, hW1, ?_⟩
    walk_at "go"
    refine dT rfl ?_
    walk_at "go"
    refine ⟨by rw [tx_len]; exact hz, ?_⟩
    rw [cut_from, ed]
    walk_at "go"
    rw [in01]
    walk_at "go"
    intro H2 e2
    rw [hib]
    exact hq H2 (e1.trans e2)
  refine eF (by omega) ?_
  walk_at "go"
  have h2a : x.apart = 2 := by omega
  by_cases h3 : x.same = 2
  · have hf := fewest_all hK h2 h2a h3
    obtain ⟨p1, p2⟩ := pos_of_C h2 hf
    rw [col_all h2a h3] at hc
    refine eT (by omega) ?_
    have ho := unrank_ones (fewest x k - 1) (fewest x k / 2 - 1) i (by omega)
    have hr2 := rank_unrank (fewest x k - 1) (fewest x k / 2 - 1) i (by omega)
    have hl2 := unrank_len (fewest x k - 1) (fewest x k / 2 - 1) i
    generalize unrank (fewest x k - 1) (fewest x k / 2 - 1) i = t at hc ho hr2 hl2
    subst hc
    walk_at "go"
    refine ⟨_, _, sg true, rfl, rfl, by rw [tx_len]; exact hz, at_tx (l := true :: t) (i := 0) (Nat.succ_pos _), ?_⟩
    walk_at "go"
    rw [count1]
    have e9 : decide (V.int ((ones (true :: t) : Nat) : Int) = V.int (((true :: t).length : Int) / 2)) = true := by
      refine decide_eq_true (congrArg V.int ?_)
      have h1 : ones (true :: t) = ones t + 1 := Nat.add_comm _ _
      have h2 : (true :: t).length = t.length + 1 := rfl
      rw [h1, h2, ho, hl2]
      omega
    refine dT (of_decide_eq_true e9) ?_
    walk_at "go"
    refine ⟨by rw [tx_len]; exact hz, ?_⟩
    have ed : cutS (tx (true :: t)) (some 1) none = tx t := cut_from (true :: t) 1
    rw [ed]
    walk_at "go"
    intro H2 e2
    rw [hr2]
    exact hq H2 (e1.trans e2)
  · have hf := fewest_two hK h2 h2a h3
    have hcn := C_onesN h3 (by omega : 2 ≤ C (fewest x k) (fewest x k / 2 + x.same))
    obtain ⟨p1, p2⟩ := pos_of_C h2 hf
    rw [col_mid h2a h3] at hc
    have ho := unrank_ones (fewest x k) (onesN x (fewest x k)) i (by omega)
    have hr2 := rank_unrank (fewest x k) (onesN x (fewest x k)) i (by omega)
    rw [hc] at ho hr2
    refine eF (by omega) ?_
    walk_at "go"
    refine ⟨_, x, _, rfl, hW1, ?_⟩
    rw [onesI (by omega), count1]
    walk_at "go"
    refine eT (by rw [ho, hlen]) ?_
    walk_at "go"
    intro H2 e2
    rw [hr2]
    exact hq H2 (e1.trans e2)
end
end FwW
end
section
set_option Elab.async false
set_option linter.all false
set_option maxRecDepth 100000
set_option maxHeartbeats 4000000
namespace FwW
open PySem PySem.Spec PyProof.Rows L2 FwR FwH Fw
local macro_rules | `(tactic| walk_at "go") => `(tactic| (repeat (first | refine ⟨_, rfl, ?_⟩ | refine ⟨_, _, rfl, rfl, ?_⟩ | refine ⟨_, _, rfl, lenTx (by assumption), ?_⟩ | refine ⟨_, _, rfl, ?_⟩ | refine ⟨_, _, _, rfl, ?_⟩ | refine ⟨Or.inl ⟨by omega, by omega⟩, ?_⟩ | refine ⟨Or.inr ⟨by omega, by omega⟩, ?_⟩ | refine ⟨⟨by omega, by omega⟩, ?_⟩ | refine ⟨(rfl : ("str" : String) = "str"), ?_⟩ | refine ⟨_, _, rfl, sqT_new, rfl, ?_⟩ | refine ⟨_, _, rfl, sqT_of (by assumption), rfl, ?_⟩ | refine ⟨⟨_, rfl⟩, ?_⟩ | refine And.intro scS ?_ | refine And.intro scI ?_ | refine And.intro (short (Nat.le_of_ble_eq_true rfl)) ?_ | refine ⟨_, _, rfl, .inr (by assumption), rfl, ws_flat _, ?_⟩ | refine ⟨_, _, rfl, lenT (by assumption), ?_⟩ | refine ⟨_, _, rfl, lenL (by assumption), ?_⟩ | refine ⟨_, _, _, _, _, rfl, by assumption, Tc.dcls (by assumption), Tc.dkept (by assumption), rfl, ?_⟩ | refine And.intro (by omega) ?_ | refine ⟨_, _, _, _, _, rfl, .ty _, .base (.int _), kit_ii, ?_⟩ | refine ⟨_, _, _, _, _, rfl, .ty _, .base (.int _), kit_ib, ?_⟩ | refine ⟨_, _, _, _, _, rfl, .ty _, .base (.str _), kit_ss, ?_⟩ | refine ⟨_, _, _, _, _, rfl, .ty _, .base (.bl _), kit_bb, ?_⟩ | refine ⟨_, _, _, _, _, rfl, .ty _, ty_t (by assumption), kit_tt, ?_⟩ | refine iteT ?_ | refine iteF ?_ | refine niT ?_ | refine nsT ?_ | refine nrT ?_ | refine nnF ?_ | refine iiF ?_ | refine isF ?_ | refine irF ?_ | refine nnT ?_ | refine eT (by omega) ?_ | refine eF (by omega) ?_ | refine nT (by omega) ?_ | refine nF (by omega) ?_ | refine dT (by omega) ?_ | refine dF (by omega) ?_)))
section
variable {P : Program} {w : World} {K : PySem.W.Frag} {mg : Str → Option Value} {base : Heap}
theorem ws_all : ∀ x : Dm, ((ws x).all fun v => match v with | .str s => inV (.str s) (ws full) | _ => false) = true := by
  rintro ⟨a, b, c, d⟩
  cases a <;> cases b <;> cases c <;> cases d <;> decide
theorem ws_in {x : Dm} {i : Nat} {v : V} (h : (ws x)[i]? = some v) : ∃ s, v = .str s ∧ inV (.str s) (ws full) = true := by
  have h2 := List.all_eq_true.mp (ws_all x) v (List.mem_of_getElem? h)
  cases v with
  | str s => exact ⟨s, rfl, h2⟩
  | _ => cases h2
theorem ws_back : ∀ x : Dm, (ws full).filter (fun v => inV v (ws x)) = ws x := by
  rintro ⟨a, b, c, d⟩
  cases a <;> cases b <;> cases c <;> cases d <;> decide
theorem full_len : (ws full).length = 4 := by decide
def keptW (x : Dm) (i : Nat) : List V := ((ws full).take i).filter fun v => inV v (ws x)
theorem keptW_all (x : Dm) : keptW x (ws full).length = ws x := by
  unfold keptW
  rw [List.take_of_length_le (Nat.le_refl _), ws_back]
theorem keptW_le (x : Dm) (i : Nat) : (keptW x i).length < sizeLine := by
  have h1 : (keptW x i).length ≤ ((ws full).take i).length := List.length_filter_le _ _
  have h2 : ((ws full).take i).length ≤ (ws full).length := by rw [List.length_take]; omega
  rw [full_len] at h2
  rw [sizeLine_eq]
  omega
theorem dpS {K : PySem.W.Frag} {H : Hp} : ∀ ss : List Str, DpAll K H (ss.map V.str) (ss.map PyData.str)
  | [] => .nil
  | s :: ss => .cons (.str s) (dpS ss)
theorem dpW {K : PySem.W.Frag} {H : Hp} {a : Addr} {x : Dm} (h : Wt K H a x) : Dp K H (.ref a) (.tuple ((wsL x).map PyData.str)) := .tup h (dpS _)
theorem shaped_ws : ∀ x : Dm, SeqAt.shaped (.tuple ((wsL x).map PyData.str)) = true := by
  rintro ⟨a, b, c, d⟩
  cases a <;> cases b <;> cases c <;> cases d <;> decide +kernel
theorem eqv_ws : ∀ x : Dm, PyData.eqv (.tuple ((wsL x).map PyData.str)) (.tuple ((wsL x).map PyData.str)) = true := by
  rintro ⟨a, b, c, d⟩
  cases a <;> cases b <;> cases c <;> cases d <;> decide +kernel
theorem eqv_no : ∀ x : Dm, PyData.eqv (.tuple ((wsL x).map PyData.str)) (.tuple []) = decide (wsL x = []) := by
  rintro ⟨a, b, c, d⟩
  cases a <;> cases b <;> cases c <;> cases d <;> decide +kernel
theorem line_dec : ∀ x : Dm, decide (V.str (lineS x) = V.str "none") = decide (wsL x = []) := by
  rintro ⟨a, b, c, d⟩
  cases a <;> cases b <;> cases c <;> cases d <;> decide +kernel
theorem line_split : ∀ x : Dm, wsL x ≠ [] → Txt.split (lineS x) " " = wsL x := by
  rintro ⟨a, b, c, d⟩
  cases a <;> cases b <;> cases c <;> cases d <;> decide +kernel
theorem line_len : ∀ x : Dm, (lineS x).length ≤ 20 := by
  rintro ⟨a, b, c, d⟩
  cases a <;> cases b <;> cases c <;> cases d <;> decide +kernel
theorem made_ext {H H1 : Hp} {o dx p : Addr} {u v u2 t : HO} (ho : H o = none) (hdx : H dx = none) (hp : upd (upd H dx u) o v p = none) (e1 : Ext (upd (upd (upd H dx u) o v) p t) H1) : Ext H (upd H1 o u2) := by
  intro a q ha
  have n1 : a ≠ o := fun e => by subst e; rw [ho] at ha; cases ha
  have n2 : a ≠ dx := fun e => by subst e; rw [hdx] at ha; cases ha
  have h1 : upd (upd H dx u) o v a = some q := by rw [upd_ne n1, upd_ne n2]; exact ha
  have n3 : a ≠ p := fun e => by subst e; rw [h1] at hp; cases hp
  rw [upd_ne n1]
  exact e1 a q (by rw [upd_ne n3]; exact h1)
theorem sqT_put {K : PySem.W.Frag} {H : Hp} {t o C dx : Addr} {xs : List V} {fs : List (Str × V)} {u : HO} (h : SqT K H t xs) (ho : H o = some (.ins C dx fs)) : SqT K (upd H o u) t xs := by
  rcases h with (h | ⟨ob, h⟩) | h
  · have n : t ≠ o := fun e => by subst e; rw [h] at ho; cases ho
    exact .inl (.inl (by rw [upd_ne n]; exact h))
  · have n : t ≠ o := fun e => by subst e; rw [h] at ho; cases ho
    exact .inl (.inr ⟨ob, by rw [upd_ne n]; exact h⟩)
  · exact .inr h
theorem ws_short (x : Dm) : (ws x).length ≤ sizeLine := by
  have := ws_len x
  have := x.apart_le
  have := x.same_le
  exact short (by omega)
def spInit (K : PySem.W.Frag) : Sp := fun vs H Q _ => ∃ (o p dx : Addr) (x : Dm), vs = [.ref o, .ref p] ∧ H o = some (.ins (gD K) dx []) ∧ Wt K H p x ∧ ∀ H1 t, Ext H H1 → Wt K H1 t x → Q .non (upd H1 o (.ins (gD K) dx [("kept", .ref t)]))
theorem sc_Demand_init : FnScope ["self", "ways", "way"] ["self", "ways"] (defScope sDemand_init) := ⟨rfl, rfl, rfl, by decide +kernel, rfl, by decide +kernel, by decide +kernel⟩
theorem mv_Demand_init (T : Tx w K mg) (c : Tc K) (h : HereM K (He.ma K (gD K) "__init__") "__init__" "Demand.__init__" sDemand_init []) (A_check_way : Av P w K mg base "check_way" 2 ["way"] spCheckWay) : FnR P w K mg base CX0 3 (He.ma K (gD K) "__init__") (fun vs H Q E => ∃ ws rest, vs = ws ++ rest ∧ ws.length = 1 ∧ rest.length ≤ sizeLine ∧ ∀ p, H p = Option.none → (spInit K) (ws ++ [V.ref p]) (upd H p (.tup rest)) Q E) := by
  refine star_mk (ps := ["self"]) (pv := "ways") h sc_Demand_init (fun _ _ _ _ _ _ us rest hl => match us, rest, hl with | [_], [], _ => rfl | [_], _ :: _, _ => rfl) (fun cdv A outer s H vs Q E hr hs => ?_)
  obtain ⟨o, p, dx, x, rfl, ho, hW, hq⟩ := hs
  refine ⟨_, (pss_cons (ps_for PassesOwn.never rfl (pi_tupK (K := K) rfl (pv 1)) (pg_name (i := 2) sc_Demand_init.nd rfl (Or.inl rfl))
    (pss_one (ps_expr (pe_callV (A_check_way.mono (by decide)) hr (by rfl) (pa_cons (pv 2) pa_nil)))))
    (pss_one (ps_fld (pv 0) (pe_callTy (tup_K (K := K) rfl) (by rfl) T.tuple_ (by decide +kernel) (pa_cons (pe_lc (own := [("way", 2)]) (g := gName 2) (by rfl) sc_Demand_init.nd (pi_tupK (K := K) rfl (pe_globR (by rfl) T.WAYS_values)) (blkOk_by (own := [("way", 2)]) (N := ["self", "ways", "way"]) (sc := (defScope sDemand_init)) (by decide +kernel)) (fun _ _ _ _ _ => (pg_name (i := 2) sc_Demand_init.nd rfl (Or.inl rfl))) (fun _ _ _ _ _ => (pts_one (pt_cmpR (op_inK (K := K) rfl) (pv 2) (pv 1) (by rfl)))) (fun _ _ _ _ _ => (pv 2))) pa_nil)) rfl))), ?_⟩
  walk_at "go"
  refine ⟨⟨_, hW⟩, ?_⟩
  refine for_it walk_tup (fun i σ H' => H' = H ∧ ∃ v : Option V, σ = [some (.ref o), some (.ref p), v]) ⟨rfl, _, rfl⟩ (fun i σ H' _ h => by rw [h.1]; exact hW) ?_ ?_
  · rintro i v σ H1 H2 hi ⟨rfl, b, rfl⟩ ⟨rfl, hv⟩
    obtain ⟨s0, rfl, hs0⟩ := ws_in hv
    walk_at "go"
    exact ⟨rfl, _, rfl⟩
  · rintro σ H1 ⟨rfl, b, rfl⟩
    walk_at "go"
    refine ⟨⟨_, T.wv_ok _⟩, fun D hD => ?_⟩
    refine lc_pure walk_tup (fun i => keptW x i) hD rfl (fun H _ => T.wv_ok H) (fun i hi => keptW_le x i) ?_ ?_
    · rintro i v H2 H3 hi e1 ⟨rfl, hv⟩ Ky K0 hy h0
      have hW1 := e1.wt hW
      have hf := ws_flat1 hv
      refine ⟨rfl, ?_⟩
      walk_at "go"
      refine ⟨_, _, rfl, .inr hW1, hf, ws_flat x, ?_⟩
      have ea : keptW x (i + 1) = keptW x i ++ (if inV v (ws x) = true then [v] else []) := filter_next hv
      walk_at "go"
      refine b2 (fun hb => ?_) (fun hb => ?_)
      · walk_at "go"
        exact hy _ _ Ext.refl (by rw [ea]; exact congrArg _ (if_pos hb))
      · exact h0 _ Ext.refl (by rw [ea]; exact (congrArg _ (if_neg (by rw [show inV v (ws x) = false from hb]; decide))).trans (List.append_nil _))
    · intro H2 e1 hD1
      rw [keptW_all] at hD1
      refine ⟨_, _, rfl, .inl ⟨sqL_of hD1, fun l hl => ?_⟩⟩
      walk_at "go"
      refine ⟨_, _, _, _, rfl, (e1.trans (Ext.new hl)) _ _ ho, c.dcls, c.dkept, Nat.le_of_ble_eq_true rfl, ?_⟩
      exact hq _ l (e1.trans (Ext.new hl)) sqT_new
def spDemandOf (K : PySem.W.Frag) : Sp := fun vs H Q _ => ∃ (a : Addr) (x : Dm), vs = [.ref a] ∧ (Wt K H a x ∨ SqL K H a (ws x)) ∧ ∀ H' o, Ext H H' → IsD K H' o x → Q (.ref o) H'
theorem sc_demand_of : FnScope ["ways"] ["ways"] (defScope s_demand_of) := ⟨rfl, rfl, rfl, by decide +kernel, rfl, by decide +kernel, by decide +kernel⟩
theorem av_demand_of (T : Tx w K mg) (c : Tc K) (M_Demand_init : FnR P w K mg base CX0 3 (He.ma K (gD K) "__init__") (fun vs H Q E => ∃ ws rest, vs = ws ++ rest ∧ ws.length = 1 ∧ rest.length ≤ sizeLine ∧ ∀ p, H p = Option.none → (spInit K) (ws ++ [V.ref p]) (upd H p (.tup rest)) Q E)) (h : Here K mg "demand_of" "demand_of" s_demand_of) : Av P w K mg base "demand_of" 5 ["ways"] (spDemandOf K) := by
  refine av_mk h sc_demand_of (fun _ _ _ _ _ _ us hl => match us, hl with | [_], _ => rfl) (fun vs H Q E hs => ?_) (fun f cdv A outer s H vs Q E hr hs => ?_)
  · obtain ⟨a, x, rfl, _⟩ := hs
    rfl
  obtain ⟨a, x, rfl, hW, hq⟩ := hs
  refine ⟨_, (pss_one (ps_ret (pe_makeS c.dmk (M_Demand_init.mono (by decide)) hr (by rfl) T.Demand pass0 (pv 0)))), ?_⟩
  walk_at "go"
  refine ⟨a, ws x, rfl, hW, fun o dx ho hdx hne => ?_⟩
  refine ⟨[.ref o], ws x, rfl, rfl, ws_short x, fun p hp => ?_⟩
  have n1 : o ≠ p := fun e => by subst e; rw [upd_same] at hp; cases hp
  refine ⟨o, p, dx, x, rfl, by rw [upd_ne n1]; exact upd_same, sqT_new, fun H1 t e1 ht => ⟨rfl, ?_⟩⟩
  have ho1 := e1 o _ (by rw [upd_ne n1]; exact upd_same)
  exact hq _ o (made_ext ho hdx hp e1) ⟨dx, t, upd_same, sqT_put ht ho1⟩
def spCheckDemand (K : PySem.W.Frag) : Sp := fun vs H Q _ => ∃ (a : Addr) (x : Dm), vs = [.ref a] ∧ IsD K H a x ∧ Q .non H
theorem sc_check_demand : FnScope ["demand"] ["demand"] (defScope s_check_demand) := ⟨rfl, rfl, rfl, by decide +kernel, rfl, by decide +kernel, by decide +kernel⟩
theorem av_check_demand (T : Tx w K mg) (c : Tc K) (h : Here K mg "check_demand" "check_demand" s_check_demand) : Av P w K mg base "check_demand" 1 ["demand"] (spCheckDemand K) := by
  refine av_mk h sc_check_demand (fun _ _ _ _ _ _ us hl => match us, hl with | [_], _ => rfl) (fun vs H Q E hs => ?_) (fun f cdv A outer s H vs Q E hr hs => ?_)
  · obtain ⟨a, x, rfl, _⟩ := hs
    rfl
  obtain ⟨a, x, rfl, ⟨dx, t, hd1, hd2⟩, hq⟩ := hs
  refine ⟨_, (pss_one (ps_if (pt_not (pt_val (pe_callB (isi_K (K := K) rfl) (by rfl) T.isinstance (by decide +kernel) (pa_cons (pv 0) (pa_cons (pe_globR (by rfl) T.Demand) pa_nil))))) (pss_one ps_never) pss_nil)), ?_⟩
  walk_at "go"
  refine ⟨_, _, _, _, _, rfl, .own _, c.dis _ _ _ _ hd1, c.dkit, ?_⟩
  walk_at "go"
  exact hq
def spDemandWith (K : PySem.W.Frag) : Sp := fun vs H Q _ => ∃ x : Dm, vs = [.str (lineS x)] ∧ ∀ H' o, Ext H H' → IsD K H' o x → Q (.ref o) H'
theorem sc_demand_with : FnScope ["text", "ways", "way"] ["text"] (defScope s_demand_with) := ⟨rfl, rfl, rfl, by decide +kernel, rfl, by decide +kernel, by decide +kernel⟩
theorem av_demand_with (T : Tx w K mg) (c : Tc K) (h : Here K mg "demand_with" "demand_with" s_demand_with) (A_demand_of : Av P w K mg base "demand_of" 5 ["ways"] (spDemandOf K)) : Av P w K mg base "demand_with" 6 ["text"] (spDemandWith K) := by
  refine av_mk h sc_demand_with (fun _ _ _ _ _ _ us hl => match us, hl with | [_], _ => rfl) (fun vs H Q E hs => ?_) (fun f cdv A outer s H vs Q E hr hs => ?_)
  · obtain ⟨x, rfl, _⟩ := hs
    rfl
  obtain ⟨x, rfl, hq⟩ := hs
  refine ⟨_, (pss_cons (ps_if (pt_not (pt_val (pe_callB (isi_K (K := K) rfl) (by rfl) T.isinstance (by decide +kernel) (pa_cons (pv 0) (pa_cons (pe_bltn (v := .ty "str") (by rfl) T.str_ (by decide +kernel) rfl) pa_nil))))) (pss_one (ps_ret pe_non)) pss_nil)
    (pss_cons (ps_set (i := 1) sc_demand_with.nd rfl (Or.inr rfl) (pe_ifExp (pt_cmpR op_eq (pv 0) pe_str (nomark _)) (pe_tup pa_nil) (pe_callTy (tup_K (K := K) rfl) (by rfl) T.tuple_ (by decide +kernel) (pa_cons (pe_split (pv 0) pe_str) pa_nil))))
    (pss_one (ps_ret (pe_ifExp (pt_cmpR (op_eqK (K := K) rfl hr.units) (pv 1) (pe_callTy (tup_K (K := K) rfl) (by rfl) T.tuple_ (by decide +kernel) (pa_cons (pe_lc (own := [("way", 2)]) (g := gName 2) (by rfl) sc_demand_with.nd (pi_tupK (K := K) rfl (pe_globR (by rfl) T.WAYS_values)) (blkOk_by (own := [("way", 2)]) (N := ["text", "ways", "way"]) (sc := (defScope s_demand_with)) (by decide +kernel)) (fun _ _ _ _ _ => (pg_name (i := 2) sc_demand_with.nd rfl (Or.inl rfl))) (fun _ _ _ _ _ => (pts_one (pt_cmpR (op_inK (K := K) rfl) (pv 2) (pv 1) (by rfl)))) (fun _ _ _ _ _ => (pv 2))) pa_nil)) (nomark _)) (pe_callV (A_demand_of.mono (by decide)) hr (by rfl) (pa_cons (pv 1) pa_nil)) pe_non))))), ?_⟩
  walk_at "go"
  have hline := line_len x
  rw [line_dec]
  have e0 : Ext H H := Ext.refl
  refine d2 (fun hx => ?_) (fun hx => ?_)
  · walk_at "go"
    intro p hp
    have hW : Wt K (upd H p (.tup [])) p x := by
      have : ws x = [] := by unfold ws; rw [hx]; rfl
      unfold Wt
      rw [this]
      exact sqT_new
    have e1 : Ext H (upd H p (.tup [])) := Ext.new hp
    generalize upd H p (.tup []) = H1 at hW e1
    walk_at "go"
    refine ⟨⟨_, T.wv_ok _⟩, fun D hD => ?_⟩
    refine lc_pure walk_tup (fun i => keptW x i) hD rfl (fun H _ => T.wv_ok H) (fun i hi => keptW_le x i) ?_ ?_
    · rintro i v H2 H3 hi e2 ⟨rfl, hv⟩ Ky K0 hy h0
      have hW1 := e2.wt hW
      have hf := ws_flat1 hv
      refine ⟨rfl, ?_⟩
      walk_at "go"
      refine ⟨_, _, rfl, .inr hW1, hf, ws_flat x, ?_⟩
      have ea : keptW x (i + 1) = keptW x i ++ (if inV v (ws x) = true then [v] else []) := filter_next hv
      walk_at "go"
      refine b2 (fun hb => ?_) (fun hb => ?_)
      · walk_at "go"
        exact hy _ _ Ext.refl (by rw [ea]; exact congrArg _ (if_pos hb))
      · exact h0 _ Ext.refl (by rw [ea]; exact (congrArg _ (if_neg (by rw [show inV v (ws x) = false from hb]; decide))).trans (List.append_nil _))
    · intro H2 e2 hD1
      rw [keptW_all] at hD1
      refine ⟨_, _, rfl, .inl ⟨sqL_of hD1, fun l hl => ?_⟩⟩
      have e3 := e2.trans (Ext.new (o := .tup (ws x)) hl)
      have hW2 := e3.wt hW
      refine ⟨_, _, dpW hW2, dpW sqT_new, shaped_ws x, shaped_ws x, ?_⟩
      walk_at "go"
      rw [eqv_ws]
      walk_at "go"
      exact ⟨p, x, rfl, .inl hW2, fun H3 o e4 ho => hq H3 o ((e1.trans e3).trans e4) ho⟩
  · walk_at "go"
    refine ⟨rfl, short (by omega), ?_⟩
    rw [line_split x hx]
    intro l0 hl0
    refine ⟨_, _, rfl, .inl ⟨sqL_new, fun p hp => ?_⟩⟩
    have hW : Wt K (upd (upd H l0 (.lst ((wsL x).map V.str))) p (.tup ((wsL x).map V.str))) p x := sqT_new
    have e1 : Ext H (upd (upd H l0 (.lst ((wsL x).map V.str))) p (.tup ((wsL x).map V.str))) := (Ext.new hl0).trans (Ext.new hp)
    generalize upd (upd H l0 (.lst ((wsL x).map V.str))) p (.tup ((wsL x).map V.str)) = H1 at hW e1 ⊢
    walk_at "go"
    refine ⟨⟨_, T.wv_ok _⟩, fun D hD => ?_⟩
    refine lc_pure walk_tup (fun i => keptW x i) hD rfl (fun H _ => T.wv_ok H) (fun i hi => keptW_le x i) ?_ ?_
    · rintro i v H2 H3 hi e2 ⟨rfl, hv⟩ Ky K0 hy h0
      have hW1 := e2.wt hW
      have hf := ws_flat1 hv
      refine ⟨rfl, ?_⟩
      walk_at "go"
      refine ⟨_, _, rfl, .inr hW1, hf, ws_flat x, ?_⟩
      have ea : keptW x (i + 1) = keptW x i ++ (if inV v (ws x) = true then [v] else []) := filter_next hv
      walk_at "go"
      refine b2 (fun hb => ?_) (fun hb => ?_)
      · walk_at "go"
        exact hy _ _ Ext.refl (by rw [ea]; exact congrArg _ (if_pos hb))
      · exact h0 _ Ext.refl (by rw [ea]; exact (congrArg _ (if_neg (by rw [show inV v (ws x) = false from hb]; decide))).trans (List.append_nil _))
    · intro H2 e2 hD1
      rw [keptW_all] at hD1
      refine ⟨_, _, rfl, .inl ⟨sqL_of hD1, fun l hl => ?_⟩⟩
      have e3 := e2.trans (Ext.new (o := .tup (ws x)) hl)
      have hW2 := e3.wt hW
      refine ⟨_, _, dpW hW2, dpW sqT_new, shaped_ws x, shaped_ws x, ?_⟩
      walk_at "go"
      rw [eqv_ws]
      walk_at "go"
      exact ⟨p, x, rfl, .inl hW2, fun H3 o e4 ho => hq H3 o ((e1.trans e3).trans e4) ho⟩
def spRead (K : PySem.W.Frag) : Sp := fun vs H Q _ => ∃ x : Dm, vs = [.ref (gD K), .str (lineS x)] ∧ ∀ H' o, Ext H H' → IsD K H' o x → Q (.ref o) H'
theorem sc_Demand_read : FnScope ["cls", "text", "demand"] ["cls", "text"] (defScope sDemand_read) := ⟨rfl, rfl, rfl, by decide +kernel, rfl, by decide +kernel, by decide +kernel⟩
theorem mv_Demand_read (T : Tx w K mg) (c : Tc K) (h : HereM K (FwK.recAd K "classmethod" (gD K) "read") "read" "Demand.read" sDemand_read []) (A_demand_with : Av P w K mg base "demand_with" 6 ["text"] (spDemandWith K)) : Mv P w K mg base (FwK.recAd K "classmethod" (gD K) "read") 7 ["cls", "text"] (spRead K) := by
  refine mv_mk h sc_Demand_read (fun _ _ _ _ _ _ us hl => match us, hl with | [_, _], _ => rfl) (fun vs H Q E hs => ?_) (fun cdv A outer s H vs Q E hr hs => ?_)
  · obtain ⟨x, rfl, _⟩ := hs
    rfl
  obtain ⟨x, rfl, hq⟩ := hs
  refine ⟨_, (pss_cons (ps_set (i := 2) sc_Demand_read.nd rfl (Or.inl rfl) (pe_callV (A_demand_with.mono (by decide)) hr (by rfl) (pa_cons (pv 1) pa_nil)))
    (pss_cons (ps_if (pt_cmp (pc_isN (pv 2))) (pss_one ps_never) pss_nil)
    (pss_one (ps_ret (pv 2))))), ?_⟩
  walk_at "go"
  intro H1 o e1 ho
  walk_at "go"
  exact hq H1 o e1 ho
def spWays (K : PySem.W.Frag) : Sp := fun vs H Q _ => ∃ (a : Addr) (x : Dm), vs = [.ref a] ∧ IsD K H a x ∧ ∀ t, Wt K H t x → Q (.ref t) H
theorem sc_Demand_ways : FnScope ["self"] ["self"] (defScope sDemand_ways) := ⟨rfl, rfl, rfl, by decide +kernel, rfl, by decide +kernel, by decide +kernel⟩
theorem mv_Demand_ways (T : Tx w K mg) (c : Tc K) (h : HereM K (FwK.recAd K "property" (gD K) "ways") "ways" "Demand.ways" sDemand_ways []) : Mv P w K mg base (FwK.recAd K "property" (gD K) "ways") 1 ["self"] (spWays K) := by
  refine mv_mk h sc_Demand_ways (fun _ _ _ _ _ _ us hl => match us, hl with | [_], _ => rfl) (fun vs H Q E hs => ?_) (fun cdv A outer s H vs Q E hr hs => ?_)
  · obtain ⟨a, x, rfl, _⟩ := hs
    rfl
  obtain ⟨a, x, rfl, ⟨dx, t, hd1, hd2⟩, hq⟩ := hs
  refine ⟨_, (pss_one (ps_ret (pe_fldK (K := K) rfl (pv 0) rfl))), ?_⟩
  walk_at "go"
  exact hq t hd2
def spDFewest (K : PySem.W.Frag) : Sp := fun vs H Q _ => ∃ (a : Addr) (x : Dm) (k : Nat), vs = [.ref a, .int k] ∧ IsD K H a x ∧ 1 ≤ k ∧ k ≤ limit ∧ ∀ H', Ext H H' → Q (.int ((fewest x k : Nat) : Int)) H'
theorem sc_Demand_fewest : FnScope ["self", "switches"] ["self", "switches"] (defScope sDemand_fewest) := ⟨rfl, rfl, rfl, by decide +kernel, rfl, by decide +kernel, by decide +kernel⟩
theorem mv_Demand_fewest (T : Tx w K mg) (c : Tc K) (h : HereM K (He.ma K (gD K) "fewest") "fewest" "Demand.fewest" sDemand_fewest []) (A_check_asked : Av P w K mg base "check_asked" 3 ["switches"] spCheckAsked) (A_fewest_of : Av P w K mg base "fewest_of" 3 ["ways", "switches"] (spFewest K)) : Mv P w K mg base (He.ma K (gD K) "fewest") 4 ["self", "switches"] (spDFewest K) := by
  refine mv_mk h sc_Demand_fewest (fun _ _ _ _ _ _ us hl => match us, hl with | [_, _], _ => rfl) (fun vs H Q E hs => ?_) (fun cdv A outer s H vs Q E hr hs => ?_)
  · obtain ⟨a, x, k, rfl, _⟩ := hs
    rfl
  obtain ⟨a, x, k, rfl, ⟨dx, t, hd1, hd2⟩, hk1, hk, hq⟩ := hs
  refine ⟨_, (pss_cons (ps_expr (pe_callV (A_check_asked.mono (by decide)) hr (by rfl) (pa_cons (pv 1) pa_nil)))
    (pss_one (ps_ret (pe_callV (A_fewest_of.mono (by decide)) hr (by rfl) (pa_cons (pe_fldK (K := K) rfl (pv 0) rfl) (pa_cons (pv 1) pa_nil)))))), ?_⟩
  have hk2 : k ≤ 10 ^ 40 := hk
  walk_at "go"
  exact ⟨t, x, k, rfl, hd2, hq⟩
def colV (x : Dm) (k i : Nat) : Bits := if k = 1 then [] else col x (fewest x k) i
def spDColumn (K : PySem.W.Frag) : Sp := fun vs H Q _ => ∃ (a : Addr) (x : Dm) (k i : Nat), vs = [.ref a, .int k, .int i] ∧ IsD K H a x ∧ 1 ≤ k ∧ k ≤ limit ∧ i < k ∧ ∀ H', Ext H H' → Q (.str (tx (colV x k i))) H'
theorem sc_Demand_column : FnScope ["self", "switches", "index"] ["self", "switches", "index"] (defScope sDemand_column) := ⟨rfl, rfl, rfl, by decide +kernel, rfl, by decide +kernel, by decide +kernel⟩
theorem mv_Demand_column (T : Tx w K mg) (c : Tc K) (h : HereM K (He.ma K (gD K) "column") "column" "Demand.column" sDemand_column []) (A_check_asked : Av P w K mg base "check_asked" 3 ["switches"] spCheckAsked) (A_is_index : Av P w K mg base "is_index" 2 ["value", "many"] spIsIndex) (A_column_of : Av P w K mg base "column_of" 4 ["ways", "trials", "index"] (spColumn K)) (A_fewest_of : Av P w K mg base "fewest_of" 3 ["ways", "switches"] (spFewest K)) : Mv P w K mg base (He.ma K (gD K) "column") 5 ["self", "switches", "index"] (spDColumn K) := by
  refine mv_mk h sc_Demand_column (fun _ _ _ _ _ _ us hl => match us, hl with | [_, _, _], _ => rfl) (fun vs H Q E hs => ?_) (fun cdv A outer s H vs Q E hr hs => ?_)
  · obtain ⟨a, x, k, i, rfl, _⟩ := hs
    rfl
  obtain ⟨a, x, k, i, rfl, ⟨dx, t, hd1, hd2⟩, hk1, hk, hi, hq⟩ := hs
  refine ⟨_, (pss_cons (ps_expr (pe_callV (A_check_asked.mono (by decide)) hr (by rfl) (pa_cons (pv 1) pa_nil)))
    (pss_cons (ps_if (pt_not (pt_val (pe_callV (A_is_index.mono (by decide)) hr (by rfl) (pa_cons (pv 2) (pa_cons (pv 1) pa_nil))))) (pss_one ps_never) pss_nil)
    (pss_one (ps_ret (pe_ifExp (pt_cmpR op_eq (pv 1) pe_int (nomark _)) pe_str (pe_callV (A_column_of.mono (by decide)) hr (by rfl) (pa_cons (pe_fldK (K := K) rfl (pv 0) rfl) (pa_cons (pe_callV (A_fewest_of.mono (by decide)) hr (by rfl) (pa_cons (pe_fldK (K := K) rfl (pv 0) rfl) (pa_cons (pv 1) pa_nil))) (pa_cons (pv 2) pa_nil))))))))), ?_⟩
  have hk2 : k ≤ 10 ^ 40 := hk
  walk_at "go"
  unfold colV at hq
  by_cases h1 : k = 1
  · rw [if_pos h1] at hq
    refine eT (by omega) ?_
    exact hq H Ext.refl
  · rw [if_neg h1] at hq
    refine eF (by omega) ?_
    walk_at "go"
    refine ⟨t, x, k, rfl, hd2, fun H1 e1 => ?_⟩
    walk_at "go"
    exact ⟨t, x, k, i, rfl, e1.wt hd2, by omega, hk, hi, fun H2 e2 => hq H2 (e1.trans e2)⟩
def spDPlace (K : PySem.W.Frag) : Sp := fun vs H Q _ => ∃ (a : Addr) (x : Dm) (k i : Nat), vs = [.ref a, .int k, .str (tx (colV x k i))] ∧ IsD K H a x ∧ 1 ≤ k ∧ k ≤ limit ∧ i < k ∧ ∀ H', Ext H H' → Q (.int ((if x.apart = 0 then 0 else i : Nat) : Int)) H'
theorem sc_Demand_place : FnScope ["self", "switches", "column", "found"] ["self", "switches", "column"] (defScope sDemand_place) := ⟨rfl, rfl, rfl, by decide +kernel, rfl, by decide +kernel, by decide +kernel⟩
theorem mv_Demand_place (T : Tx w K mg) (c : Tc K) (h : HereM K (He.ma K (gD K) "place") "place" "Demand.place" sDemand_place []) (A_check_asked : Av P w K mg base "check_asked" 3 ["switches"] spCheckAsked) (A_is_signs_values : Av P w K mg base "is_signs_values" 1 ["value", "many"] spIsSigns) (A_fewest_of : Av P w K mg base "fewest_of" 3 ["ways", "switches"] (spFewest K)) (A_index_of : Av P w K mg base "index_of" 4 ["ways", "column"] (spIndexOf K)) : Mv P w K mg base (He.ma K (gD K) "place") 5 ["self", "switches", "column"] (spDPlace K) := by
  refine mv_mk h sc_Demand_place (fun _ _ _ _ _ _ us hl => match us, hl with | [_, _, _], _ => rfl) (fun vs H Q E hs => ?_) (fun cdv A outer s H vs Q E hr hs => ?_)
  · obtain ⟨a, x, k, i, rfl, _⟩ := hs
    rfl
  obtain ⟨a, x, k, i, rfl, ⟨dx, t, hd1, hd2⟩, hk1, hk, hi, hq⟩ := hs
  refine ⟨_, (pss_cons (ps_expr (pe_callV (A_check_asked.mono (by decide)) hr (by rfl) (pa_cons (pv 1) pa_nil)))
    (pss_cons (ps_if (pt_not (pt_val (pe_callV (A_is_signs_values.mono (by decide)) hr (by rfl) (pa_cons (pv 2) (pa_cons (pe_callV (A_fewest_of.mono (by decide)) hr (by rfl) (pa_cons (pe_fldK (K := K) rfl (pv 0) rfl) (pa_cons (pv 1) pa_nil))) pa_nil))))) (pss_one ps_never) pss_nil)
    (pss_cons (ps_set (i := 3) sc_Demand_place.nd rfl (Or.inl rfl) (pe_ifExp (pt_cmpR op_eq (pv 1) pe_int (nomark _)) pe_int (pe_callV (A_index_of.mono (by decide)) hr (by rfl) (pa_cons (pe_fldK (K := K) rfl (pv 0) rfl) (pa_cons (pv 2) pa_nil)))))
    (pss_one (ps_ret (pe_ifExp (PW.pt (pw_and (pt_cmp (pc_notN (pv 3))) (pw_and1 (pt_cmpR op_lt (pv 3) (pv 1) (nomark _))))) (pv 3) pe_non)))))), ?_⟩
  have hk2 : k ≤ 10 ^ 40 := hk
  walk_at "go"
  refine ⟨t, x, k, rfl, hd2, fun H1 e1 => ?_⟩
  have hlen : (colV x k i).length = fewest x k := by
    unfold colV
    by_cases h1 : k = 1
    · subst h1
      rw [if_pos rfl, fewest_one]
      rfl
    · rw [if_neg h1]
      exact col_len (x := x) hk (by omega) hi
  have hN := fewest_le x hk
  walk_at "go"
  refine ⟨colV x k i, by rw [hlen], by omega, fun H2 e2 => ?_⟩
  have e12 := e1.trans e2
  have hd3 := e12 _ _ hd1
  walk_at "go"
  by_cases h1 : k = 1
  · refine eT (by omega) ?_
    walk_at "go"
    have hf := hq H2 e12
    have e : (if x.apart = 0 then 0 else i : Nat) = 0 := by
      by_cases h : x.apart = 0
      · rw [if_pos h]
      · rw [if_neg h]; omega
    rw [e] at hf
    exact hf
  · refine eF (by omega) ?_
    walk_at "go"
    refine ⟨t, x, k, i, by unfold colV; rw [if_neg h1], e12.wt hd2, by omega, hk, hi, fun H3 e3 => ?_⟩
    have hle : (if x.apart = 0 then 0 else i : Nat) < k := by
      by_cases h : x.apart = 0
      · rw [if_pos h]; omega
      · rw [if_neg h]; exact hi
    have hf := hq H3 (e12.trans e3)
    generalize (if x.apart = 0 then 0 else i : Nat) = r at hle hf
    walk_at "go"
    exact hf
def spDStr (K : PySem.W.Frag) : Sp := fun vs H Q _ => ∃ (a : Addr) (x : Dm), vs = [.ref a] ∧ IsD K H a x ∧ ∀ H', Ext H H' → Q (.str (lineS x)) H'
theorem sc_Demand_str : FnScope ["self"] ["self"] (defScope sDemand_str) := ⟨rfl, rfl, rfl, by decide +kernel, rfl, by decide +kernel, by decide +kernel⟩
theorem mv_Demand_str (T : Tx w K mg) (c : Tc K) (h : HereM K (He.ma K (gD K) "__str__") "__str__" "Demand.__str__" sDemand_str []) : Mv P w K mg base (He.ma K (gD K) "__str__") 1 ["self"] (spDStr K) := by
  refine mv_mk h sc_Demand_str (fun _ _ _ _ _ _ us hl => match us, hl with | [_], _ => rfl) (fun vs H Q E hs => ?_) (fun cdv A outer s H vs Q E hr hs => ?_)
  · obtain ⟨a, x, rfl, _⟩ := hs
    rfl
  obtain ⟨a, x, rfl, ⟨dx, t, hd1, hd2⟩, hq⟩ := hs
  refine ⟨_, (pss_one (ps_ret (pe_joined1 (pe_fmt (pe_ifExp (pt_cmpR (op_neK (K := K) rfl hr.units) (pe_fldK (K := K) rfl (pv 0) rfl) (pe_tup pa_nil) (nomark _)) (pe_joinK (K := K) rfl pe_str (pe_fldK (K := K) rfl (pv 0) rfl)) pe_str))))), ?_⟩
  walk_at "go"
  intro p hp
  have e1 : Ext H (upd H p (.tup [])) := Ext.new hp
  have hd3 := e1 _ _ hd1
  have hW := e1.wt hd2
  refine ⟨_, _, dpW hW, .tup sqT_new .nil, shaped_ws x, rfl, ?_⟩
  walk_at "go"
  rw [eqv_no]
  by_cases hx : wsL x = []
  · refine ntF hx ?_
    walk_at "go"
    refine .inl ⟨_, rfl, short (Nat.le_of_ble_eq_true rfl), ?_⟩
    have hf := hq _ e1
    rw [show lineS x = "none" from if_pos hx] at hf
    exact hf
  · refine ntT hx ?_
    walk_at "go"
    refine ⟨_, _, wsL x, rfl, rfl, .inr hW, join_ws x, ?_⟩
    have hf := hq _ e1
    have hl : lineS x = Txt.join " " (wsL x) := if_neg hx
    rw [hl] at hf
    exact .inl ⟨_, rfl, by rw [← hl]; exact short (by have := line_len x; omega), hf⟩
end
end FwW
end
section
set_option Elab.async false
set_option linter.all false
set_option maxRecDepth 100000
set_option maxHeartbeats 4000000
namespace FwW
open PySem PySem.Spec PyProof.Rows L2 FwR FwH Fw
local macro_rules | `(tactic| walk_at "go") => `(tactic| (repeat (first | refine ⟨_, rfl, ?_⟩ | refine ⟨_, _, rfl, rfl, ?_⟩ | refine ⟨_, _, rfl, lenTx (by assumption), ?_⟩ | refine ⟨_, _, rfl, ?_⟩ | refine ⟨_, _, _, rfl, ?_⟩ | refine ⟨Or.inl ⟨by omega, by omega⟩, ?_⟩ | refine ⟨Or.inr ⟨by omega, by omega⟩, ?_⟩ | refine ⟨⟨by omega, by omega⟩, ?_⟩ | refine ⟨(rfl : ("str" : String) = "str"), ?_⟩ | refine ⟨_, _, rfl, sqT_new, rfl, ?_⟩ | refine ⟨_, _, rfl, sqT_of (by assumption), rfl, ?_⟩ | refine ⟨⟨_, rfl⟩, ?_⟩ | refine And.intro scS ?_ | refine And.intro scI ?_ | refine And.intro (short (Nat.le_of_ble_eq_true rfl)) ?_ | refine ⟨_, _, rfl, .inr (by assumption), rfl, ws_flat _, ?_⟩ | refine ⟨_, _, rfl, lenT (by assumption), ?_⟩ | refine ⟨_, _, rfl, lenL (by assumption), ?_⟩ | refine ⟨_, _, _, _, _, rfl, by assumption, Tc.dcls (by assumption), Tc.dkept (by assumption), rfl, ?_⟩ | refine And.intro (by omega) ?_ | refine ⟨_, _, _, _, _, rfl, .ty _, .base (.int _), kit_ii, ?_⟩ | refine ⟨_, _, _, _, _, rfl, .ty _, .base (.int _), kit_ib, ?_⟩ | refine ⟨_, _, _, _, _, rfl, .ty _, .base (.str _), kit_ss, ?_⟩ | refine ⟨_, _, _, _, _, rfl, .ty _, .base (.bl _), kit_bb, ?_⟩ | refine ⟨_, _, _, _, _, rfl, .ty _, ty_t (by assumption), kit_tt, ?_⟩ | refine iteT ?_ | refine iteF ?_ | refine niT ?_ | refine nsT ?_ | refine nrT ?_ | refine nnF ?_ | refine iiF ?_ | refine isF ?_ | refine irF ?_ | refine nnT ?_ | refine eT (by omega) ?_ | refine eF (by omega) ?_ | refine nT (by omega) ?_ | refine nF (by omega) ?_ | refine dT (by omega) ?_ | refine dF (by omega) ?_)))
section
variable {P : Program} {w : World} {K : PySem.W.Frag} {mg : Str → Option Value} {base : Heap}
theorem sc_chosen : FnScope ["many", "some", "found", "k"] ["many", "some"] (defScope s_chosen) := ⟨rfl, rfl, rfl, by decide +kernel, rfl, by decide +kernel, by decide +kernel⟩
theorem av_chosen (T : Tx w K mg) (c : Tc K) (h : Here K mg "chosen" "chosen" s_chosen) : Av P w K mg base "chosen" 1 ["many", "some"] spBin := by
  refine av_mk h sc_chosen (fun _ _ _ _ _ _ us hl => match us, hl with | [_, _], _ => rfl) (fun vs H Q E hs => ?_) (fun f cdv A outer s H vs Q E hr hs => ?_)
  · obtain ⟨n, r, rfl, _⟩ := hs
    rfl
  obtain ⟨n, r, rfl, hn, hq⟩ := hs
  refine ⟨_, (pss_cons (ps_if (pt_not (pt_chain op_le op_le pe_int (pv 1) (pv 0))) (pss_one (ps_ret pe_int)) pss_nil)
    (pss_cons (ps_set (i := 2) sc_chosen.nd rfl (Or.inl rfl) pe_int)
    (pss_cons (ps_for PassesOwn.never rfl (pi_range1 (by rfl) T.range (pa_cons (pe_callB (call_min2 rfl) (by rfl) T.min (by decide +kernel) (pa_cons (pv 1) (pa_cons (pe_op op_sub (pv 0) (pv 1)) pa_nil))) pa_nil)) (pg_name (i := 3) sc_chosen.nd rfl (Or.inl rfl))
    (pss_one (ps_set (i := 2) sc_chosen.nd rfl (Or.inl rfl) (pe_op op_fdiv (pe_op op_mul (pv 2) (pe_op op_sub (pv 0) (pv 3))) (pe_op op_add (pv 3) pe_int)))))
    (pss_one (ps_ret (pv 2)))))), ?_⟩
  walk_at "go"
  refine d2 (fun h0 => ?_) (fun h0 => ?_)
  · walk_at "go"
    by_cases h1 : r ≤ n
    · refine ntF h1 ?_
      have e : binI n r = ((C n.toNat r.toNat : Nat) : Int) := if_neg (by omega)
      rw [e] at hq
      obtain ⟨m, hm, hC⟩ : ∃ m : Nat, (if n - r < r then n - r else r) = (m : Int) ∧ C n.toNat m = C n.toNat r.toNat := by
        by_cases hlt : n - r < r
        · refine ⟨n.toNat - r.toNat, by rw [if_pos hlt]; omega, C_sym' (by omega)⟩
        · exact ⟨r.toNat, by rw [if_neg hlt]; omega, rfl⟩
      have hmn : m ≤ n.toNat := by
        by_cases hlt : n - r < r
        · rw [if_pos hlt] at hm; omega
        · rw [if_neg hlt] at hm; omega
      walk_at "go"
      rw [hm]
      walk_at "go"
      refine for_range (lo := 0) (n := m) (fun i σ H' => H' = H ∧ ∃ k, σ = [some (.int n), some (.int r), some (.int ((C n.toNat i : Nat) : Int)), k]) ⟨rfl, _, by rw [C_zero] <;> rfl⟩ ?_ ?_
      · rintro i σ H' hi ⟨rfl, k, rfl⟩
        walk_at "go"
        refine ⟨rfl, some (.int (0 + (i : Int))), ?_⟩
        have e1 : (((C n.toNat i : Nat) : Int) * (n - (0 + (i : Int)))) / (0 + (i : Int) + 1) = ((C n.toNat (i + 1) : Nat) : Int) := by
          rw [← C_next_div, Int.zero_add]
          have e2 : n - (i : Int) = ((n.toNat - i : Nat) : Int) := by omega
          rw [e2]
          push_cast
          rfl
        rw [← e1]
        rfl
      · rintro σ H' ⟨rfl, k, rfl⟩
        walk_at "go"
        rw [hC]
        exact hq
    · refine ntT h1 ?_
      have e : binI n r = 0 := if_pos (.inr (by omega))
      rw [e] at hq
      exact hq
  · have e : binI n r = 0 := if_pos (.inl (by omega))
    rw [e] at hq
    walk_at "go"
    exact hq
def spPowered : Sp := fun vs H Q _ => ∃ t : Int, vs = [.int t] ∧ t ≤ 1000 ∧ Q (.int (if t < 0 then 0 else ((2 ^ t.toNat : Nat) : Int))) H
theorem sc_powered : FnScope ["times"] ["times"] (defScope s_powered) := ⟨rfl, rfl, rfl, by decide +kernel, rfl, by decide +kernel, by decide +kernel⟩
theorem av_powered (T : Tx w K mg) (c : Tc K) (h : Here K mg "powered" "powered" s_powered) : Av P w K mg base "powered" 1 ["times"] spPowered := by
  refine av_mk h sc_powered (fun _ _ _ _ _ _ us hl => match us, hl with | [_], _ => rfl) (fun vs H Q E hs => ?_) (fun f cdv A outer s H vs Q E hr hs => ?_)
  · obtain ⟨t, rfl, _⟩ := hs
    rfl
  obtain ⟨t, rfl, ht, hq⟩ := hs
  refine ⟨_, (pss_one (ps_ret (pe_ifExp (pt_cmpR op_lt (pv 0) pe_int (nomark _)) pe_int (pe_op op_shl pe_int (pv 0))))), ?_⟩
  walk_at "go"
  refine d2 (fun h0 => ?_) (fun h0 => ?_)
  · rw [if_pos h0] at hq
    exact hq
  · rw [if_neg h0] at hq
    walk_at "go"
    have e : (1 : Int) * 2 ^ t.toNat = ((2 ^ t.toNat : Nat) : Int) := by rw [Int.one_mul]; push_cast; rfl
    rw [← e] at hq
    exact hq
theorem b2i_n (b : Bool) : b2i b = ((b2n b : Nat) : Int) := by cases b <;> rfl
theorem sc_split_of : FnScope ["ways", "unlike"] ["ways"] (defScope s_split_of) := ⟨rfl, rfl, rfl, by decide +kernel, rfl, by decide +kernel, by decide +kernel⟩
theorem av_split_of (T : Tx w K mg) (c : Tc K) (h : Here K mg "split_of" "split_of" s_split_of) : Av P w K mg base "split_of" 1 ["ways"] (spSides K) := by
  refine av_mk h sc_split_of (fun _ _ _ _ _ _ us hl => match us, hl with | [_], _ => rfl) (fun vs H Q E hs => ?_) (fun f cdv A outer s H vs Q E hr hs => ?_)
  · obtain ⟨a, x, rfl, _⟩ := hs
    rfl
  obtain ⟨a, x, rfl, hW, hq⟩ := hs
  refine ⟨_, (pss_cons (ps_set (i := 1) sc_split_of.nd rfl (Or.inl rfl) (pe_op op_add_bb (pe_cmpR (op_inK (K := K) rfl) pe_str (pv 0) (by rfl)) (pe_cmpR (op_inK (K := K) rfl) pe_str (pv 0) (by rfl))))
    (pss_one (ps_ret (pe_tup (pa_cons (pv 1) (pa_cons (pe_op op_sub (pe_callB (call_lenK (K := K) rfl) (by rfl) T.len PySem.boot_len (pa_cons (pv 0) pa_nil)) (pv 1)) pa_nil)))))), ?_⟩
  walk_at "go"
  intro p hp
  have e1 : b2i (inV (.str "01") (ws x)) + b2i (inV (.str "10") (ws x)) = ((x.apart : Nat) : Int) := by
    rw [in01, in10, b2i_n, b2i_n]
    show _ = ((b2n x.b + b2n x.c : Nat) : Int)
    push_cast; rfl
  have e2 : (((ws x).length : Nat) : Int) - ((x.apart : Nat) : Int) = ((x.same : Nat) : Int) := by rw [ws_len]; omega
  have hf := hq (upd H p (.tup [.int (x.apart : Nat), .int (x.same : Nat)])) p (Ext.new hp) upd_same
  rw [← e2, ← e1] at hf
  exact hf
theorem sc_most_for : FnScope ["ways", "trials", "unlike", "alike"] ["ways", "trials"] (defScope s_most_for) := ⟨rfl, rfl, rfl, by decide +kernel, rfl, by decide +kernel, by decide +kernel⟩
theorem av_most_for (T : Tx w K mg) (c : Tc K) (h : Here K mg "most_for" "most_for" s_most_for) (A_split_of : Av P w K mg base "split_of" 1 ["ways"] (spSides K)) (A_powered : Av P w K mg base "powered" 1 ["times"] spPowered) (A_chosen : Av P w K mg base "chosen" 1 ["many", "some"] spBin) : Av P w K mg base "most_for" 2 ["ways", "trials"] (spMost K) := by
  refine av_mk h sc_most_for (fun _ _ _ _ _ _ us hl => match us, hl with | [_, _], _ => rfl) (fun vs H Q E hs => ?_) (fun f cdv A outer s H vs Q E hr hs => ?_)
  · obtain ⟨a, x, n, rfl, _⟩ := hs
    rfl
  obtain ⟨a, x, n, rfl, hW, hn, hq⟩ := hs
  refine ⟨_, (pss_cons (ps_asg (pe_callV (A_split_of.mono (by decide)) hr (by rfl) (pa_cons (pv 0) pa_nil)) (pg_tupK (K := K) (n := 2) rfl rfl (pgs_cons (pg_name (i := 2) sc_most_for.nd rfl (Or.inl rfl)) (pgs_cons (pg_name (i := 3) sc_most_for.nd rfl (Or.inl rfl)) pgs_nil))))
    (pss_cons (ps_if (PW.pt (pw_and (pt_cmpR op_eq (pv 2) pe_int (nomark _)) (pw_and1 (pt_cmpR op_ge (pv 1) (pv 3) (nomark _))))) (pss_one (ps_ret pe_non)) pss_nil)
    (pss_cons (ps_if (pt_cmpR op_eq (pv 2) pe_int (nomark _)) (pss_one (ps_ret pe_int)) pss_nil)
    (pss_cons (ps_if (pt_cmpR op_eq (pv 2) pe_int (nomark _)) (pss_one (ps_ret (pe_callB (call_max2 rfl) (by rfl) T.max (by decide +kernel) (pa_cons pe_int (pa_cons (pe_callV (A_powered.mono (by decide)) hr (by rfl) (pa_cons (pe_op op_sub (pv 1) (pv 3)) pa_nil)) pa_nil))))) pss_nil)
    (pss_cons (ps_if (pt_cmpR op_eq (pv 3) pe_int (nomark _)) (pss_one (ps_ret (pe_callB (call_max2 rfl) (by rfl) T.max (by decide +kernel) (pa_cons pe_int (pa_cons (pe_callV (A_chosen.mono (by decide)) hr (by rfl) (pa_cons (pe_op op_sub (pv 1) pe_int) (pa_cons (pe_op op_sub (pe_op op_fdiv (pv 1) pe_int) pe_int) pa_nil))) pa_nil))))) pss_nil)
    (pss_one (ps_ret (pe_callB (call_max2 rfl) (by rfl) T.max (by decide +kernel) (pa_cons pe_int (pa_cons (pe_callV (A_chosen.mono (by decide)) hr (by rfl) (pa_cons (pv 1) (pa_cons (pe_op op_add (pe_op op_fdiv (pv 1) pe_int) (pv 3)) pa_nil))) pa_nil)))))))))), ?_⟩
  walk_at "go"
  refine ⟨_, x, rfl, hW, fun H1 p e1 hp => ?_⟩
  walk_at "go"
  have hq1 := hq H1 e1
  have ha := x.apart_le
  have hs2 := x.same_le
  unfold mostV most at hq1
  by_cases h0 : x.apart = 0
  · rw [if_pos h0] at hq1
    refine eT (by omega) ?_
    walk_at "go"
    refine d2 (fun h1 => ?_) (fun h1 => ?_)
    · rw [if_pos (by omega)] at hq1
      exact hq1
    · rw [if_neg (by omega)] at hq1
      walk_at "go"
      exact hq1
  rw [if_neg h0] at hq1
  refine eF (by omega) ?_
  walk_at "go"
  by_cases h1 : x.apart = 1
  · rw [if_pos h1] at hq1
    refine eT (by omega) ?_
    walk_at "go"
    have e : (if (if (n : Int) - (x.same : Nat) < 0 then (0 : Int) else ((2 ^ ((n : Int) - (x.same : Nat)).toNat : Nat) : Int)) > 1 then (if (n : Int) - (x.same : Nat) < 0 then (0 : Int) else ((2 ^ ((n : Int) - (x.same : Nat)).toNat : Nat) : Int)) else 1) = ((2 ^ (n - x.same) : Nat) : Int) := by
      by_cases hn0 : (n : Int) - (x.same : Nat) < 0
      · rw [if_pos hn0, if_neg (by decide), show n - x.same = 0 by omega]; rfl
      · rw [if_neg hn0, show ((n : Int) - (x.same : Nat)).toNat = n - x.same by omega]
        have := Nat.pow_pos (n := n - x.same) (show 0 < 2 by decide)
        by_cases hb : ((2 ^ (n - x.same) : Nat) : Int) > 1
        · rw [if_pos hb]
        · rw [if_neg hb]; omega
    rw [e]
    exact hq1
  rw [if_neg h1] at hq1
  refine eF (by omega) ?_
  walk_at "go"
  by_cases h2 : x.same = 2
  · rw [if_pos h2] at hq1
    refine eT (by omega) ?_
    walk_at "go"
    rw [all_nat]
    exact hq1
  rw [if_neg h2] at hq1
  refine eF (by omega) ?_
  walk_at "go"
  have e : (n : Int) / 2 + ((x.same : Nat) : Int) = ((n / 2 + x.same : Nat) : Int) := by omega
  have e3 : (if ((C n (n / 2 + x.same) : Nat) : Int) > 1 then ((C n (n / 2 + x.same) : Nat) : Int) else 1) = ((max 1 (C n (n / 2 + x.same)) : Nat) : Int) := max_nat (a := 1)
  rw [e, binI_nat, e3]
  exact hq1
theorem sc_rank_of : FnScope ["text", "left", "ones", "found", "here", "sign", "ahead"] ["text"] (defScope s_rank_of) := ⟨rfl, rfl, rfl, by decide +kernel, rfl, by decide +kernel, by decide +kernel⟩
theorem av_rank_of (T : Tx w K mg) (c : Tc K) (h : Here K mg "rank_of" "rank_of" s_rank_of) (A_chosen : Av P w K mg base "chosen" 1 ["many", "some"] spBin) : Av P w K mg base "rank_of" 2 ["text"] spIndexWith := by
  refine av_mk h sc_rank_of (fun _ _ _ _ _ _ us hl => match us, hl with | [_], _ => rfl) (fun vs H Q E hs => ?_) (fun f cdv A outer s H vs Q E hr hs => ?_)
  · obtain ⟨n, rfl, _⟩ := hs
    rfl
  obtain ⟨l, rfl, hl, hq⟩ := hs
  refine ⟨_, (pss_cons (ps_par3 (i := 1) (j := 2) (l := 3) rfl sc_rank_of.nd rfl rfl rfl (by decide) (by decide) (by decide) rfl rfl rfl (pa_cons (pe_callB (call_lenK (K := K) rfl) (by rfl) T.len PySem.boot_len (pa_cons (pv 0) pa_nil)) (pa_cons (pe_bm PySem.F.plainAttrs_str PySem.F.slot_str_count PySem.F.type_str_count mt_count (pv 0) (pa_cons pe_str pa_nil)) (pa_cons pe_int pa_nil))) rfl)
    (pss_cons (ps_set (i := 4) sc_rank_of.nd rfl (Or.inl rfl) (pe_callV (A_chosen.mono (by decide)) hr (by rfl) (pa_cons (pv 1) (pa_cons (pv 2) pa_nil))))
    (pss_cons (ps_for PassesOwn.never rfl (pi_str (pv 0)) (pg_name (i := 5) sc_rank_of.nd rfl (Or.inl rfl))
    (pss_cons (ps_set (i := 6) sc_rank_of.nd rfl (Or.inl rfl) (pe_op op_fdiv (pe_op op_mul (pv 4) (pe_op op_sub (pv 1) (pv 2))) (pv 1)))
    (pss_cons (ps_if (pt_cmpR op_eq (pv 5) pe_str (nomark _)) (pss_one (ps_set (i := 4) sc_rank_of.nd rfl (Or.inl rfl) (pv 6))) (pss_one (ps_par3 (i := 3) (j := 4) (l := 2) rfl sc_rank_of.nd rfl rfl rfl (by decide) (by decide) (by decide) rfl rfl rfl (pa_cons (pe_op op_add (pv 3) (pv 6)) (pa_cons (pe_op op_sub (pv 4) (pv 6)) (pa_cons (pe_op op_sub (pv 2) pe_int) pa_nil))) rfl)))
    (pss_one (ps_set (i := 1) sc_rank_of.nd rfl (Or.inl rfl) (pe_op op_sub (pv 1) pe_int))))))
    (pss_one (ps_ret (pv 3)))))), ?_⟩
  have hz : l.length ≤ sizeLine := by rw [sizeLine_eq]; omega
  walk_at "go"
  rw [count1, binI_nat]
  refine for_it walk_str (fun j σ H' => H' = H ∧ ∃ (fd : Nat) (a b : Option V), fd + rank (l.drop j) = rank l ∧
    σ = [some (.str (tx l)), some (.int ((l.drop j).length : Nat)), some (.int ((ones (l.drop j) : Nat) : Int)), some (.int (fd : Int)), some (.int ((C (l.drop j).length (ones (l.drop j)) : Nat) : Int)), a, b]) ⟨rfl, 0, _, _, Nat.zero_add _, rfl⟩ (fun _ _ _ _ _ => trivial) ?_ ?_
  · rintro j x σ H' H'' hj ⟨rfl, fd, a, b, hf, rfl⟩ ⟨rfl, cc, hcc, rfl⟩
    have hj : j < l.length := by
      have : j < (tx l).length := hj
      rwa [tx_len] at this
    have hd : l.drop j = l[j] :: l.drop (j + 1) := List.drop_eq_getElem_cons hj
    have hc2 : cc = sg l[j] := by
      rw [tx_ix, List.getElem?_eq_getElem hj] at hcc
      exact (Option.some.inj hcc).symm
    subst hc2
    have hlt : (l.drop (j + 1)).length ≤ 1000 := by rw [List.length_drop]; omega
    generalize l[j] = b0 at hd
    generalize l.drop (j + 1) = t at hd hlt
    rw [hd] at hf
    rw [hd]
    have ho := ones_le t
    have ho2 : ones (b0 :: t) ≤ t.length + 1 := ones_le (b0 :: t)
    have hpos : 0 < C (t.length + 1) (ones (b0 :: t)) := C_pos ho2
    have ea := ahead_int hpos
    have hl2 : (b0 :: t).length = t.length + 1 := rfl
    rw [hl2]
    walk_at "go"
    rw [sg_zero]
    have el : ((t.length + 1 : Nat) : Int) - 1 = ((t.length : Nat) : Int) := by omega
    cases b0 with
    | true =>
      refine bF rfl ?_
      walk_at "go"
      have hs := C_step t.length (ones t)
      have h1 : ones (true :: t) = ones t + 1 := Nat.add_comm _ _
      have hk : rank (true :: t) = C t.length (ones t + 1) + rank t := rfl
      have e4 : ((C (t.length + 1) (ones t + 1) : Nat) : Int) - ((C t.length (ones t + 1) : Nat) : Int) = ((C t.length (ones t) : Nat) : Int) := by omega
      have e5 : ((ones t + 1 : Nat) : Int) - 1 = ((ones t : Nat) : Int) := by omega
      have e6 : (fd : Int) + ((C t.length (ones t + 1) : Nat) : Int) = ((fd + C t.length (ones t + 1) : Nat) : Int) := by push_cast; rfl
      rw [h1] at ea ⊢
      refine ⟨rfl, fd + C t.length (ones t + 1), some (.str ⟨#[sg true]⟩), some (.int ((C t.length (ones t + 1) : Nat) : Int)), by omega, ?_⟩
      rw [← e6, ← e4, ← e5, ← ea, ← el]
      rfl
    | false =>
      refine bT rfl ?_
      walk_at "go"
      have h1 : ones (false :: t) = ones t := Nat.zero_add _
      have hk : rank (false :: t) = rank t := rfl
      rw [h1] at ea ⊢
      refine ⟨rfl, fd, some (.str ⟨#[sg false]⟩), some (.int ((C t.length (ones t) : Nat) : Int)), by omega, ?_⟩
      rw [← ea, ← el]
      rfl
  · rintro σ H' ⟨rfl, fd, a, b, hf, rfl⟩
    have e : fd = rank l := by
      rw [← hf, List.drop_eq_nil_of_le (by show l.length ≤ (tx l).length; rw [tx_len]; exact Nat.le_refl _)]; rfl
    subst e
    walk_at "go"
    exact hq _ Ext.refl
theorem sc_fewest_for : FnScope ["ways", "switches", "trials", "step", "most"] ["ways", "switches"] (defScope s_fewest_for) := ⟨rfl, rfl, rfl, by decide +kernel, rfl, by decide +kernel, by decide +kernel⟩
theorem av_fewest_for (T : Tx w K mg) (c : Tc K) (h : Here K mg "fewest_for" "fewest_for" s_fewest_for) (A_most_for : Av P w K mg base "most_for" 2 ["ways", "trials"] (spMost K)) : Av P w K mg base "fewest_for" 3 ["ways", "switches"] (spFewest K) := by
  refine av_mk h sc_fewest_for (fun _ _ _ _ _ _ us hl => match us, hl with | [_, _], _ => rfl) (fun vs H Q E hs => ?_) (fun f cdv A outer s H vs Q E hr hs => ?_)
  · obtain ⟨a, x, n, rfl, _⟩ := hs
    rfl
  obtain ⟨a, x, k, rfl, hW, hq⟩ := hs
  refine ⟨_, (pss_cons (ps_set (i := 2) sc_fewest_for.nd rfl (Or.inl rfl) pe_int)
    (pss_cons (ps_for PassesOwn.never rfl (pi_tupK (K := K) rfl (pe_tup (pa_cons pe_int (pa_cons pe_int (pa_cons pe_int (pa_cons pe_int (pa_cons pe_int (pa_cons pe_int (pa_cons pe_int (pa_cons pe_int pa_nil)))))))))) (pg_name (i := 3) sc_fewest_for.nd rfl (Or.inl rfl))
    (pss_cons (ps_set (i := 4) sc_fewest_for.nd rfl (Or.inl rfl) (pe_callV (A_most_for.mono (by decide)) hr (by rfl) (pa_cons (pv 0) (pa_cons (pe_op op_sub (pe_op op_add (pv 2) (pv 3)) pe_int) pa_nil))))
    (pss_one (ps_if (PW.pt (pw_and (pt_cmp (pc_notN (pv 4))) (pw_and1 (pt_cmpR op_lt (pv 4) (pv 1) (nomark _))))) (pss_one (ps_set (i := 2) sc_fewest_for.nd rfl (Or.inl rfl) (pe_op op_add (pv 2) (pv 3)))) pss_nil))))
    (pss_one (ps_ret (pv 2))))), ?_⟩
  walk_at "go"
  intro p hp
  walk_at "go"
  have hT : SqT K (upd H p (.tup stepsV)) p stepsV := sqT_new
  refine ⟨⟨_, hT⟩, ?_⟩
  refine for_it walk_tup (fun i σ H' => Ext (upd H p (.tup stepsV)) H' ∧ ∃ (t : Nat) (b c : Option V), t = (stepsN.take i).foldl (stepF x k) 0 ∧ t + (stepsN.drop i).sum ≤ 255 ∧
    σ = [some (.ref a), some (.int (k : Nat)), some (.int (t : Nat)), b, c]) ⟨Ext.refl, 0, _, _, rfl, by decide, rfl⟩ (fun i σ H' _ h => h.1.sqT hT) ?_ ?_
  · rintro i v σ H1 H2 hi ⟨e1, t, b, c, ht, hb, rfl⟩ ⟨rfl, hv⟩
    have hi2 : i < stepsN.length := hi
    have hd : stepsN.drop i = stepsN[i] :: stepsN.drop (i + 1) := List.drop_eq_getElem_cons hi2
    have htk : stepsN.take (i + 1) = stepsN.take i ++ [stepsN[i]] := by rw [List.take_add_one, List.getElem?_eq_getElem hi2]; rfl
    have hv2 : v = .int ((stepsN[i] : Nat) : Int) := by
      have : (stepsN[i]?).map (fun s => V.int ((s : Nat) : Int)) = some v := by rw [← List.getElem?_map]; exact hv
      rw [List.getElem?_eq_getElem hi2] at this
      exact (Option.some.inj this).symm
    have hpos : 0 < stepsN[i] := by
      have : ∀ s ∈ stepsN, 0 < s := by decide
      exact this _ (List.getElem_mem hi2)
    subst hv2
    rw [hd, List.sum_cons] at hb
    have hfold : (stepsN.take (i + 1)).foldl (stepF x k) 0 = stepF x k t stepsN[i] := by
      rw [htk, List.foldl_append, ← ht]; rfl
    generalize stepsN[i] = s at hpos hb hfold
    have hW1 : Wt K H2 a x := ((Ext.new hp).trans e1).wt hW
    walk_at "go"
    have e5 : (t : Int) + (s : Int) - 1 = ((t + s - 1 : Nat) : Int) := by omega
    refine ⟨_, x, t + s - 1, by rw [← e5], hW1, by omega, fun H3 e3 => ?_⟩
    have e13 := e1.trans e3
    walk_at "go"
    cases hm : most x (t + s - 1) with
    | none =>
      have h1 : mostV x (t + s - 1) = .non := by unfold mostV; rw [hm]
      have h2 : few x k (t + s - 1) = false := by unfold few; rw [hm]
      rw [h1]
      refine ntF rfl ?_
      walk_at "go"
      exact ⟨t, some (.int (s : Nat)), some .non, by rw [hfold, stepF_enough h2], by omega, rfl⟩
    | some m =>
      have h1 : mostV x (t + s - 1) = .int (m : Nat) := by unfold mostV; rw [hm]
      have h2 : few x k (t + s - 1) = decide (m < k) := by unfold few; rw [hm]
      rw [h1]
      refine ntT (fun z => by cases z) ?_
      walk_at "go"
      refine d2 (fun h3 => ?_) (fun h3 => ?_)
      · walk_at "go"
        exact ⟨t + s, some (.int (s : Nat)), some (.int (m : Nat)), by rw [hfold, stepF_few (by rw [h2]; exact decide_eq_true (by omega))], by omega, rfl⟩
      · walk_at "go"
        exact ⟨t, some (.int (s : Nat)), some (.int (m : Nat)), by rw [hfold, stepF_enough (by rw [h2]; exact decide_eq_false (by omega))], by omega, rfl⟩
  · rintro σ H1 ⟨e1, t, b, c, ht, hb, rfl⟩
    walk_at "go"
    have hf := hq H1 ((Ext.new hp).trans e1)
    have e : fewest x k = t := ht.symm
    rw [e] at hf
    exact hf
/-- the head's text, by its def's words written out -/
def tHead (K : PySem.W.Frag) (i : Nat) : TE := fun σ H Q => ∃ (a : Addr) (x : Dm), σ[i]? = some (some (.ref a)) ∧ Wt K H a x ∧ Q (.str (tx x.head)) H
theorem head_imp {K : PySem.W.Frag} {σ : L2.St} {H : Hp} {Q : VK} (h : tHead K 0 σ H Q) : tOp (fun x y H Q => ∃ i j, x = V.str i ∧ y = V.str j ∧ i.length + j.length ≤ sizeLine ∧ Q (V.str (i ++ j)) H)
    (tIf (tTest (tOp (inR K) (tC (V.str "11")) (tVar 0))) (tC (V.str "1")) (tC (V.str ""))) (tIf (tTest (tOp (inR K) (tC (V.str "00")) (tVar 0))) (tC (V.str "0")) (tC (V.str ""))) σ H Q := by
  obtain ⟨a, x, hσ, hW, hq⟩ := h
  refine ⟨_, hσ, ?_⟩
  walk_at "go"
  obtain ⟨xa, xb, xc, xd⟩ := x
  rw [in11]
  cases xd with
  | true =>
    walk_at "go"
    refine ⟨_, hσ, ?_⟩
    walk_at "go"
    rw [in00]
    cases xa with
    | true =>
      walk_at "go"
      exact hq
    | false =>
      walk_at "go"
      exact hq
  | false =>
    walk_at "go"
    refine ⟨_, hσ, ?_⟩
    walk_at "go"
    rw [in00]
    cases xa with
    | true =>
      walk_at "go"
      exact hq
    | false =>
      walk_at "go"
      exact hq
theorem pe_imp {X : Cx} {e : Expr} {t t' : TE} (h : PE X e t) (hi : ∀ {σ : L2.St} {H : Hp} {Q : VK}, t' σ H Q → t σ H Q) : PE X e t' := ⟨fun pins s σ H Q I q => h.run pins s σ H Q I (hi q)⟩
def spPlace (K : PySem.W.Frag) : Sp := fun vs H Q _ => ∃ (a : Addr) (x : Dm) (k i : Nat), vs = [.ref a, .str (tx (col x (fewest x k) i))] ∧ Wt K H a x ∧ x.apart ≠ 0 ∧ 2 ≤ k ∧ k ≤ limit ∧ i < k ∧ ∀ H', Ext H H' → Q (.int (i : Nat)) H'
theorem sc_place_of : FnScope ["ways", "column", "unlike", "alike", "trials", "ones", "head", "rest", "ahead", "wanted", "some"] ["ways", "column"] (defScope s_place_of) := ⟨rfl, rfl, rfl, by decide +kernel, rfl, by decide +kernel, by decide +kernel⟩
theorem av_place_of (T : Tx w K mg) (c : Tc K) (h : Here K mg "place_of" "place_of" s_place_of) (A_split_of : Av P w K mg base "split_of" 1 ["ways"] (spSides K)) (A_chosen : Av P w K mg base "chosen" 1 ["many", "some"] spBin) (A_rank_of : Av P w K mg base "rank_of" 2 ["text"] spIndexWith) : Av P w K mg base "place_of" 4 ["ways", "column"] (spPlace K) := by
  refine av_mk h sc_place_of (fun _ _ _ _ _ _ us hl => match us, hl with | [_, _], _ => rfl) (fun vs H Q E hs => ?_) (fun f cdv A outer s H vs Q E hr hs => ?_)
  · obtain ⟨a, x, k, i, rfl, _⟩ := hs
    rfl
  obtain ⟨a, x, k, i, rfl, hW, h0, h2, hK, hi, hq⟩ := hs
  refine ⟨_, (pss_cons (ps_asg (pe_callV (A_split_of.mono (by decide)) hr (by rfl) (pa_cons (pv 0) pa_nil)) (pg_tupK (K := K) (n := 2) rfl rfl (pgs_cons (pg_name (i := 2) sc_place_of.nd rfl (Or.inl rfl)) (pgs_cons (pg_name (i := 3) sc_place_of.nd rfl (Or.inl rfl)) pgs_nil))))
    (pss_cons (ps_par (i := 4) (j := 5) rfl sc_place_of.nd rfl rfl (by decide) rfl rfl (pa_cons (pe_callB (call_lenK (K := K) rfl) (by rfl) T.len PySem.boot_len (pa_cons (pv 1) pa_nil)) (pa_cons (pe_bm PySem.F.plainAttrs_str PySem.F.slot_str_count PySem.F.type_str_count mt_count (pv 1) (pa_cons pe_str pa_nil)) pa_nil)) rfl)
    (pss_cons (ps_if (pt_cmpR op_eq (pv 2) pe_int (nomark _)) (pss_cons (ps_set (i := 6) sc_place_of.nd rfl (Or.inl rfl) (pe_imp (t' := tHead K 0) (pe_op op_add_str (pe_ifExp (pt_cmpR (op_inK (K := K) rfl) pe_str (pv 0) (by rfl)) pe_str pe_str) (pe_ifExp (pt_cmpR (op_inK (K := K) rfl) pe_str (pv 0) (by rfl)) pe_str pe_str)) head_imp))
    (pss_cons (ps_if (pt_not (pt_val (pe_bm PySem.F.plainAttrs_str PySem.F.slot_str_startswith PySem.F.type_str_startswith mt_startswith (pv 1) (pa_cons (pv 6) pa_nil)))) (pss_one (ps_ret pe_non)) pss_nil)
    (pss_cons (ps_set (i := 7) sc_place_of.nd rfl (Or.inr rfl) (pe_slice sl_str (pv 1) (po_some (pe_callB (call_lenK (K := K) rfl) (by rfl) T.len PySem.boot_len (pa_cons (pv 6) pa_nil))) po_none))
    (pss_cons (ps_set (i := 5) sc_place_of.nd rfl (Or.inl rfl) (pe_bm PySem.F.plainAttrs_str PySem.F.slot_str_count PySem.F.type_str_count mt_count (pv 7) (pa_cons pe_str pa_nil)))
    (pss_cons (ps_set (i := 8) sc_place_of.nd rfl (Or.inl rfl) (pe_ifExp (pt_cmpR (op_inK (K := K) rfl) pe_str (pv 0) (by rfl)) (pe_listRg rfl (by rfl) T.list_ (prg_1 (by rfl) T.range (pv 5))) (pe_listRg rfl (by rfl) T.list_ (prg_2 (by rfl) T.range (pe_op op_add (pv 5) pe_int) (pe_op op_add (pe_callB (call_lenK (K := K) rfl) (by rfl) T.len PySem.boot_len (pa_cons (pv 7) pa_nil)) pe_int)))))
    (pss_one (ps_ret (pe_op op_add (pe_callB (sum_K (K := K) rfl rfl) (by rfl) T.sum (by decide +kernel) (pa_cons (pe_lc (own := [("some", 10)]) (g := gName 10) (by rfl) sc_place_of.nd (pi_listK (K := K) rfl (pv 8)) (blkOk_by (own := [("some", 10)]) (N := ["ways", "column", "unlike", "alike", "trials", "ones", "head", "rest", "ahead", "wanted", "some"]) (sc := (defScope s_place_of)) (by decide +kernel)) (fun _ _ _ _ _ => (pg_name (i := 10) sc_place_of.nd rfl (Or.inl rfl))) (fun _ _ _ _ _ => pts_nil) (fun _ _ _ _ _ => (pe_callV (A_chosen.mono (by decide)) hr (by rfl) (pa_cons (pe_callB (call_lenK (K := K) rfl) (by rfl) T.len PySem.boot_len (pa_cons (pv 7) pa_nil)) (pa_cons (pv 10) pa_nil))))) pa_nil)) (pe_callV (A_rank_of.mono (by decide)) hr (by rfl) (pa_cons (pv 7) pa_nil)))))))))) pss_nil)
    (pss_cons (ps_if (pt_cmpR op_eq (pv 3) pe_int (nomark _)) (pss_one (ps_ret (pe_ifExp (PW.pt (pw_and (pt_val (pe_bm PySem.F.plainAttrs_str PySem.F.slot_str_startswith PySem.F.type_str_startswith mt_startswith (pv 1) (pa_cons pe_str pa_nil))) (pw_and1 (pt_cmpR op_eq (pv 5) (pe_op op_fdiv (pv 4) pe_int) (nomark _))))) (pe_callV (A_rank_of.mono (by decide)) hr (by rfl) (pa_cons (pe_slice sl_str (pv 1) (po_some pe_int) po_none) pa_nil)) pe_non))) pss_nil)
    (pss_cons (ps_set (i := 9) sc_place_of.nd rfl (Or.inl rfl) (pe_op op_add (pe_op op_fdiv (pv 4) pe_int) (pv 3)))
    (pss_one (ps_ret (pe_ifExp (pt_cmpR op_eq (pe_ifExp (pt_cmpR (op_inK (K := K) rfl) pe_str (pv 0) (by rfl)) (pe_op op_sub (pv 4) (pv 5)) (pv 5)) (pv 9) (nomark _)) (pe_callV (A_rank_of.mono (by decide)) hr (by rfl) (pa_cons (pv 1) pa_nil)) pe_non)))))))), ?_⟩
  have hN := fewest_le x hK
  have hlen := col_len (x := x) hK h2 hi
  walk_at "go"
  refine ⟨_, x, rfl, hW, fun H1 p e1 hp => ?_⟩
  have hW1 := e1.wt hW
  have hap := x.apart_le
  generalize hc : col x (fewest x k) i = l at hlen
  have hz : l.length ≤ sizeLine := by rw [hlen, sizeLine_eq]; omega
  walk_at "go"
  rw [count1]
  walk_at "go"
  by_cases h1 : x.apart = 1
  · have hf := fewest_one_way hK h1
    have hlt : x.same < fewest x k := by
      apply Decidable.byContradiction
      intro z
      rw [show fewest x k - x.same = 0 by omega] at hf
      omega
    rw [col_one h1] at hc
    have e6 := textBy_len (n := fewest x k - x.same) (i := i) x.b (by omega)
    have e7 := x.head_len
    have hib := indexBy_textBy (n := fewest x k - x.same) (i := i) x.b (by omega)
    generalize textBy (fewest x k - x.same) i x.b = t at hc e6 hib
    refine eT (by omega) ?_
    walk_at "go"
    refine ⟨_, x, rfl, hW1, ?_⟩
    walk_at "go"
    have et : l.take x.head.length = x.head := by rw [← hc, List.take_left]
    have ed : l.drop x.head.length = t := by rw [← hc, List.drop_left]
    rw [starts_tx, decide_eq_true et]
    have hz3 : x.head.length ≤ sizeLine := short (by have := x.same_le; omega)
    walk_at "go"
    refine ⟨by rw [tx_len]; exact hz, ?_⟩
    rw [cut_from, ed]
    have hz4 : t.length ≤ sizeLine := by rw [sizeLine_eq]; omega
    have hot := ones_le t
    walk_at "go"
    rw [count1]
    walk_at "go"
    rw [in01]
    cases hxb : x.b with
    | true =>
      walk_at "go"
      intro q hq1
      walk_at "go"
      refine ⟨⟨_, sqL_new⟩, fun D hD => ?_⟩
      refine lc_pure walk_list (fun i => (runB t.length (0) i).map V.int) hD rfl (fun H e => e.sqL sqL_new) (fun i hi => ?_) ?_ ?_
      · rw [rgV_length] at hi
        rw [List.length_map]
        unfold runB
        rw [List.length_map, List.length_range, sizeLine_eq]
        omega
      · rintro i x H2 H3 hi e2 ⟨rfl, hx⟩ Ky K0 hy h0
        have hx2 : x = .int (0 + (i : Nat)) := rgV_at hx
        subst hx2
        refine ⟨rfl, ?_⟩
        walk_at "go"
        exact hy _ _ Ext.refl (by rw [runB_succ, List.map_append]; rfl)
      · intro H2 e2 hD1
        refine ⟨_, _, rfl, sqL_of hD1, ?_⟩
        walk_at "go"
        intro H3 e3
        walk_at "go"
        have es : (runB t.length (0) (rgV (0) (ones t : Nat)).length).sum + ((rank t : Nat) : Int) = ((i : Nat) : Int) := by
          rw [← hib, hxb]
          rw [rgV_length, Int.sub_zero, Int.toNat_natCast, runB_up]
          show _ = ((rowS t.length (ones t) + rank t : Nat) : Int)
          push_cast; rfl
        have hf := hq H3 (((e1.trans (Ext.new hq1)).trans e2).trans e3)
        rw [← es] at hf
        exact hf
    | false =>
      walk_at "go"
      intro q hq1
      walk_at "go"
      refine ⟨⟨_, sqL_new⟩, fun D hD => ?_⟩
      refine lc_pure walk_list (fun i => (runB t.length ((ones t : Int) + 1) i).map V.int) hD rfl (fun H e => e.sqL sqL_new) (fun i hi => ?_) ?_ ?_
      · rw [rgV_length] at hi
        rw [List.length_map]
        unfold runB
        rw [List.length_map, List.length_range, sizeLine_eq]
        omega
      · rintro i x H2 H3 hi e2 ⟨rfl, hx⟩ Ky K0 hy h0
        have hx2 : x = .int ((ones t : Int) + 1 + (i : Nat)) := rgV_at hx
        subst hx2
        refine ⟨rfl, ?_⟩
        walk_at "go"
        exact hy _ _ Ext.refl (by rw [runB_succ, List.map_append]; rfl)
      · intro H2 e2 hD1
        refine ⟨_, _, rfl, sqL_of hD1, ?_⟩
        walk_at "go"
        intro H3 e3
        walk_at "go"
        have es : (runB t.length ((ones t : Int) + 1) (rgV ((ones t : Int) + 1) ((t.length : Nat) + 1)).length).sum + ((rank t : Nat) : Int) = ((i : Nat) : Int) := by
          rw [← hib, hxb]
          rw [rgV_length]
          have e3 : ((t.length : Nat) + 1 - ((ones t : Int) + 1)).toNat = t.length - ones t := by omega
          have e4 : (ones t : Int) + 1 = ((t.length - (t.length - ones t) : Nat) : Int) + 1 := by omega
          rw [e3, e4, runB_down t.length (t.length - ones t) (by omega)]
          show _ = ((rowF t.length (t.length - ones t) + rank t : Nat) : Int)
          push_cast; rfl
        have hf := hq H3 (((e1.trans (Ext.new hq1)).trans e2).trans e3)
        rw [← es] at hf
        exact hf
  refine eF (by omega) ?_
  walk_at "go"
  have h2a : x.apart = 2 := by omega
  by_cases h3 : x.same = 2
  · have hf := fewest_all hK h2 h2a h3
    obtain ⟨p1, p2⟩ := pos_of_C h2 hf
    rw [col_all h2a h3] at hc
    refine eT (by omega) ?_
    have ho := unrank_ones (fewest x k - 1) (fewest x k / 2 - 1) i (by omega)
    have hr2 := rank_unrank (fewest x k - 1) (fewest x k / 2 - 1) i (by omega)
    have hl2 := unrank_len (fewest x k - 1) (fewest x k / 2 - 1) i
    generalize unrank (fewest x k - 1) (fewest x k / 2 - 1) i = t at hc ho hr2 hl2
    subst hc
    walk_at "go"
    have est : Txt.startswith (tx (true :: t)) (Str.ofString "1") = true := by
      rw [show Str.ofString "1" = tx [true] from tx1, starts_tx]
      exact decide_eq_true rfl
    rw [est]
    walk_at "go"
    have h1 : ones (true :: t) = ones t + 1 := Nat.add_comm _ _
    have h2 : (true :: t).length = t.length + 1 := rfl
    refine eT (by rw [h1, h2, ho, hl2]; omega) ?_
    walk_at "go"
    refine ⟨by rw [tx_len]; exact hz, ?_⟩
    have ed : cutS (tx (true :: t)) (some 1) none = tx t := cut_from (true :: t) 1
    rw [ed]
    walk_at "go"
    intro H2 e2
    rw [hr2]
    exact hq H2 (e1.trans e2)
  · have hf := fewest_two hK h2 h2a h3
    have hcn := C_onesN h3 (by omega : 2 ≤ C (fewest x k) (fewest x k / 2 + x.same))
    obtain ⟨p1, p2⟩ := pos_of_C h2 hf
    rw [col_mid h2a h3] at hc
    have ho := unrank_ones (fewest x k) (onesN x (fewest x k)) i (by omega)
    have hr2 := rank_unrank (fewest x k) (onesN x (fewest x k)) i (by omega)
    rw [hc] at ho hr2
    refine eF (by omega) ?_
    walk_at "go"
    have hon : onesN x (fewest x k) = (if x.d then fewest x k / 2 + 1 else if x.a then fewest x k - fewest x k / 2 - 1 else fewest x k / 2) := rfl
    have hsm : x.same = b2n x.a + b2n x.d := rfl
    rw [in00]
    refine b2 (fun ha => ?_) (fun ha => ?_)
    · have hd : x.d = false := by
        cases hd : x.d with
        | false => rfl
        | true => rw [ha, hd] at hsm; exact absurd hsm h3
      rw [hd, ha] at hon hsm
      have hon2 : onesN x (fewest x k) = fewest x k - fewest x k / 2 - 1 := hon
      have hsm2 : x.same = 1 := hsm
      walk_at "go"
      intro H2 e2
      rw [hr2]
      exact hq H2 (e1.trans e2)
    · rw [ha] at hon hsm
      have hse : x.same = b2n x.d := by rw [hsm]; exact Nat.zero_add _
      have hoe : onesN x (fewest x k) = fewest x k / 2 + x.same := by
        rw [hon, hse]
        cases x.d <;> rfl
      walk_at "go"
      intro H2 e2
      rw [hr2]
      exact hq H2 (e1.trans e2)
end
end FwW
end
section
set_option Elab.async false
set_option linter.all false
set_option maxRecDepth 100000
set_option maxHeartbeats 4000000
namespace FwW
open PySem PySem.Spec PyProof.Rows L2 FwR FwH Fw
local macro_rules | `(tactic| walk_at "go") => `(tactic| (repeat (first | refine ⟨_, rfl, ?_⟩ | refine ⟨_, _, rfl, rfl, ?_⟩ | refine ⟨_, _, rfl, lenTx (by assumption), ?_⟩ | refine ⟨_, _, rfl, ?_⟩ | refine ⟨_, _, _, rfl, ?_⟩ | refine ⟨Or.inl ⟨by omega, by omega⟩, ?_⟩ | refine ⟨Or.inr ⟨by omega, by omega⟩, ?_⟩ | refine ⟨⟨by omega, by omega⟩, ?_⟩ | refine ⟨(rfl : ("str" : String) = "str"), ?_⟩ | refine ⟨_, _, rfl, sqT_new, rfl, ?_⟩ | refine ⟨_, _, rfl, sqT_of (by assumption), rfl, ?_⟩ | refine ⟨⟨_, rfl⟩, ?_⟩ | refine And.intro scS ?_ | refine And.intro scI ?_ | refine And.intro (short (Nat.le_of_ble_eq_true rfl)) ?_ | refine ⟨_, _, rfl, .inr (by assumption), rfl, ws_flat _, ?_⟩ | refine ⟨_, _, rfl, lenT (by assumption), ?_⟩ | refine ⟨_, _, rfl, lenL (by assumption), ?_⟩ | refine ⟨_, _, _, _, _, rfl, by assumption, Tc.dcls (by assumption), Tc.dkept (by assumption), rfl, ?_⟩ | refine And.intro (by omega) ?_ | refine ⟨_, _, _, _, _, rfl, .ty _, .base (.int _), kit_ii, ?_⟩ | refine ⟨_, _, _, _, _, rfl, .ty _, .base (.int _), kit_ib, ?_⟩ | refine ⟨_, _, _, _, _, rfl, .ty _, .base (.str _), kit_ss, ?_⟩ | refine ⟨_, _, _, _, _, rfl, .ty _, .base (.bl _), kit_bb, ?_⟩ | refine ⟨_, _, _, _, _, rfl, .ty _, ty_t (by assumption), kit_tt, ?_⟩ | refine iteT ?_ | refine iteF ?_ | refine niT ?_ | refine nsT ?_ | refine nrT ?_ | refine nnF ?_ | refine iiF ?_ | refine isF ?_ | refine irF ?_ | refine nnT ?_ | refine eT (by omega) ?_ | refine eF (by omega) ?_ | refine nT (by omega) ?_ | refine nF (by omega) ?_ | refine dT (by omega) ?_ | refine dF (by omega) ?_)))
section
variable {P : Program} {w : World} {K : PySem.W.Frag} {mg : Str → Option Value} {base : Heap}
def spShowsF (K : PySem.W.Frag) : Sp := fun vs H Q _ => ∃ (a : Addr) (x : Dm) (k : Nat) (t : Int), vs = [.ref a, .int k, .int t, .non] ∧ Wt K H a x ∧ 1 ≤ k ∧ k ≤ limit ∧ ∀ H', Ext H H' → Q (.bl (decide (t = ((fewest x k : Nat) : Int)))) H'
theorem sc_shows_fewest : FnScope ["ways", "switches", "trials", "certificate"] ["ways", "switches", "trials", "certificate"] (defScope s_shows_fewest) := ⟨rfl, rfl, rfl, by decide +kernel, rfl, by decide +kernel, by decide +kernel⟩
theorem av_shows_fewest (T : Tx w K mg) (c : Tc K) (h : Here K mg "shows_fewest" "shows_fewest" s_shows_fewest) (A_is_number : Av P w K mg base "is_number" 2 ["value", "least", "most"] spIsNumber) (A_is_integer_checker : Av P w K mg base "is_integer_checker" 1 ["value"] spIsInt) (A_fewest_for : Av P w K mg base "fewest_for" 3 ["ways", "switches"] (spFewest K)) : Av P w K mg base "shows_fewest" 4 ["ways", "switches", "trials", "certificate"] (spShowsF K) := by
  refine av_mk h sc_shows_fewest (fun _ _ _ _ _ _ us hl => match us, hl with | [_, _, _, _], _ => rfl) (fun vs H Q E hs => ?_) (fun f cdv A outer s H vs Q E hr hs => ?_)
  · obtain ⟨a, x, k, t, rfl, _⟩ := hs
    rfl
  obtain ⟨a, x, k, t, rfl, hW, h1, hK, hq⟩ := hs
  refine ⟨_, (pss_cons (ps_if (PW.pt (pw_or (pt_cmp (pc_notN (pv 3))) (pw_or (pt_not (pt_val (pe_callV (A_is_number.mono (by decide)) hr (by rfl) (pa_cons (pv 1) (pa_cons pe_int (pa_cons (pe_globI (by rfl) T.MOST_ASKED_checker) pa_nil)))))) (pw_or1 (pt_not (pt_val (pe_callV (A_is_integer_checker.mono (by decide)) hr (by rfl) (pa_cons (pv 2) pa_nil)))))))) (pss_one (ps_ret pe_bl)) pss_nil)
    (pss_one (ps_ret (pe_cmpR op_eq (pv 2) (pe_callV (A_fewest_for.mono (by decide)) hr (by rfl) (pa_cons (pv 0) (pa_cons (pv 1) pa_nil))) (nomark _))))), ?_⟩
  have hk2 : k ≤ 10 ^ 40 := hK
  walk_at "go"
  refine ⟨_, x, k, rfl, hW, fun H1 e1 => ?_⟩
  have hf := hq H1 e1
  walk_at "go"
  have e : decide (V.int t = V.int ((fewest x k : Nat) : Int)) = decide (t = ((fewest x k : Nat) : Int)) := dec_int.trans (by rw [Bool.beq_eq_decide_eq])
  rw [← e] at hf
  exact hf
theorem rise_ws : ∀ x : Dm, ∀ k, k + 1 < (wsL x).length → ∃ s t, (wsL x)[k]? = some s ∧ (wsL x)[k + 1]? = some t ∧ decide (s.cps.toList < t.cps.toList) = true := by
  have key : ∀ x : Dm, ((List.range ((wsL x).length - 1)).all fun k => match (wsL x)[k]?, (wsL x)[k + 1]? with
    | some s, some t => decide (s.cps.toList < t.cps.toList)
    | _, _ => false) = true := by
    rintro ⟨a, b, c, d⟩
    cases a <;> cases b <;> cases c <;> cases d <;> decide +kernel
  intro x k hk
  have h := List.all_eq_true.mp (key x) k (List.mem_range.mpr (by omega))
  rw [List.getElem?_eq_getElem (show k < (wsL x).length by omega), List.getElem?_eq_getElem hk] at h ⊢
  exact ⟨_, _, rfl, rfl, h⟩
theorem at_ws {x : Dm} {k : Nat} {s : Str} (h : (wsL x)[k]? = some s) : atI (ws x) (k : Int) = some (.str s) := by
  have hk : k < (wsL x).length := by
    apply Decidable.byContradiction
    intro z
    rw [List.getElem?_eq_none (by omega)] at h
    cases h
  rw [at_nat (by unfold ws; rw [List.length_map]; exact hk)]
  unfold ws
  rw [List.getElem?_map, h]
  rfl
def spRising (K : PySem.W.Frag) : Sp := fun vs H Q _ => ∃ (a : Addr) (x : Dm), vs = [.ref a] ∧ SqL K H a (ws x) ∧ wsL x ≠ [] ∧ ∀ H', Ext H H' → Q (.bl true) H'
theorem sc_is_rising : FnScope ["values", "k"] ["values"] (defScope s_is_rising) := ⟨rfl, rfl, rfl, by decide +kernel, rfl, by decide +kernel, by decide +kernel⟩
theorem av_is_rising (T : Tx w K mg) (c : Tc K) (h : Here K mg "is_rising" "is_rising" s_is_rising) : Av P w K mg base "is_rising" 1 ["values"] (spRising K) := by
  refine av_mk h sc_is_rising (fun _ _ _ _ _ _ us hl => match us, hl with | [_], _ => rfl) (fun vs H Q E hs => ?_) (fun f cdv A outer s H vs Q E hr hs => ?_)
  · obtain ⟨a, x, rfl, _⟩ := hs
    rfl
  obtain ⟨a, x, rfl, hL, hx, hq⟩ := hs
  refine ⟨_, (pss_one (ps_ret (pe_callB (all_K (K := K) rfl rfl) (by rfl) T.all (by decide +kernel) (pa_cons (pe_lc (own := [("k", 1)]) (g := gName 1) (by rfl) sc_is_rising.nd (pi_range1 (by rfl) T.range (pa_cons (pe_op op_sub (pe_callB (call_lenK (K := K) rfl) (by rfl) T.len PySem.boot_len (pa_cons (pv 0) pa_nil)) pe_int) pa_nil)) (blkOk_by (own := [("k", 1)]) (N := ["values", "k"]) (sc := (defScope s_is_rising)) (by decide +kernel)) (fun _ _ _ _ _ => (pg_name (i := 1) sc_is_rising.nd rfl (Or.inl rfl))) (fun _ _ _ _ _ => pts_nil) (fun _ _ _ _ _ => (pe_cmpR op_lt_str (pe_ix (ix_listK (K := K) rfl) (pv 0) (pv 1) (fun _ _ => rfl)) (pe_ix (ix_listK (K := K) rfl) (pv 0) (pe_op op_add (pv 1) pe_int) (fun _ _ => rfl)) (nomark _)))) pa_nil)))), ?_⟩
  walk_at "go"
  have hlen : (ws x).length = (wsL x).length := List.length_map _
  have hwl := ws_len x
  have ha := x.apart_le
  have hs2 := x.same_le
  have hpos : 0 < (wsL x).length := List.length_pos_iff.mpr hx
  refine ⟨by omega, ?_⟩
  intro D hD
  refine lc_pure walk_range (fun i => (List.replicate i true).map V.bl) hD rfl (fun _ _ => trivial) (fun i hi => ?_) ?_ ?_
  · rw [List.length_map, List.length_replicate, sizeLine_eq]
    omega
  · rintro i v H1 H2 hi e1 ⟨rfl, rfl⟩ Ky K0 hy h0
    obtain ⟨s1, s2, g1, g2, g3⟩ := rise_ws x i (by omega)
    have hL1 := e1.sqL hL
    refine ⟨rfl, ?_⟩
    walk_at "go"
    refine ⟨_, _, _, _, rfl, rfl, hL1, by rw [Int.zero_add]; exact at_ws (k := i) g1, ?_⟩
    walk_at "go"
    refine ⟨_, _, _, _, rfl, rfl, hL1, by rw [Int.zero_add]; exact at_ws (k := i + 1) g2, ?_⟩
    walk_at "go"
    rw [g3]
    exact hy _ _ Ext.refl (by rw [List.replicate_succ', List.map_append]; rfl)
  · intro H1 e1 hD1
    refine ⟨_, _, rfl, sqL_of hD1, ?_⟩
    rw [all_tt]
    exact hq _ e1
def spWaysIn (K : PySem.W.Frag) : Sp := fun vs H Q _ => ∃ x : Dm, vs = [.str (lineS x)] ∧ ∀ H' p, Ext H H' → Wt K H' p x → Q (.ref p) H'
theorem sc_ways_in_checker : FnScope ["text", "ways", "way"] ["text"] (defScope s_ways_in_checker) := ⟨rfl, rfl, rfl, by decide +kernel, rfl, by decide +kernel, by decide +kernel⟩
theorem av_ways_in_checker (T : Tx w K mg) (c : Tc K) (h : Here K mg "ways_in_checker" "ways_in" s_ways_in_checker) (A_is_rising : Av P w K mg base "is_rising" 1 ["values"] (spRising K)) : Av P w K mg base "ways_in_checker" 2 ["text"] (spWaysIn K) := by
  refine av_mk h sc_ways_in_checker (fun _ _ _ _ _ _ us hl => match us, hl with | [_], _ => rfl) (fun vs H Q E hs => ?_) (fun f cdv A outer s H vs Q E hr hs => ?_)
  · obtain ⟨x, rfl, _⟩ := hs
    rfl
  obtain ⟨x, rfl, hq⟩ := hs
  refine ⟨_, (pss_cons (ps_if (pt_not (pt_val (pe_callB (isi_K (K := K) rfl) (by rfl) T.isinstance (by decide +kernel) (pa_cons (pv 0) (pa_cons (pe_bltn (v := .ty "str") (by rfl) T.str_ (by decide +kernel) rfl) pa_nil))))) (pss_one (ps_ret pe_non)) pss_nil)
    (pss_cons (ps_if (pt_cmpR op_eq (pv 0) pe_str (nomark _)) (pss_one (ps_ret (pe_tup pa_nil))) pss_nil)
    (pss_cons (ps_set (i := 1) sc_ways_in_checker.nd rfl (Or.inl rfl) (pe_split (pv 0) pe_str))
    (pss_one (ps_ret (pe_ifExp (PW.pt (pw_and (pt_val (pe_callB (all_K (K := K) rfl rfl) (by rfl) T.all (by decide +kernel) (pa_cons (pe_lc (own := [("way", 2)]) (g := gName 2) (by rfl) sc_ways_in_checker.nd (pi_listK (K := K) rfl (pv 1)) (blkOk_by (own := [("way", 2)]) (N := ["text", "ways", "way"]) (sc := (defScope s_ways_in_checker)) (by decide +kernel)) (fun _ _ _ _ _ => (pg_name (i := 2) sc_ways_in_checker.nd rfl (Or.inl rfl))) (fun _ _ _ _ _ => pts_nil) (fun _ _ _ _ _ => (pe_cmpR (op_inK (K := K) rfl) (pv 2) (pe_globR (by rfl) T.WAYS_checker) (by rfl)))) pa_nil))) (pw_and1 (pt_val (pe_callV (A_is_rising.mono (by decide)) hr (by rfl) (pa_cons (pv 1) pa_nil)))))) (pe_callTy (tup_K (K := K) rfl) (by rfl) T.tuple_ (by decide +kernel) (pa_cons (pv 1) pa_nil)) pe_non)))))), ?_⟩
  walk_at "go"
  have hline := line_len x
  rw [line_dec]
  refine d2 (fun hx => ?_) (fun hx => ?_)
  · walk_at "go"
    intro p hp
    have hW : Wt K (upd H p (.tup [])) p x := by
      have : ws x = [] := by unfold ws; rw [hx]; rfl
      unfold Wt
      rw [this]
      exact sqT_new
    exact hq _ p (Ext.new hp) hW
  · walk_at "go"
    refine ⟨rfl, short (by omega), ?_⟩
    rw [line_split x hx]
    intro l0 hl0
    have hL : SqL K (upd H l0 (.lst ((wsL x).map V.str))) l0 (ws x) := sqL_new
    walk_at "go"
    refine ⟨⟨_, hL⟩, fun D hD => ?_⟩
    refine lc_pure walk_list (fun i => (List.replicate i true).map V.bl) hD rfl (fun _ e => e.sqL hL) (fun i hi => ?_) ?_ ?_
    · have hwl := ws_len x
      have ha := x.apart_le
      have hs2 := x.same_le
      rw [List.length_map, List.length_replicate, sizeLine_eq]
      omega
    · rintro i v H1 H2 hi e1 ⟨rfl, hv⟩ Ky K0 hy h0
      obtain ⟨s0, rfl, hs0⟩ := ws_in hv
      refine ⟨rfl, ?_⟩
      walk_at "go"
      refine ⟨_, _, rfl, .inr (T.wc_ok _), rfl, ws_flat full, ?_⟩
      rw [hs0]
      exact hy _ _ Ext.refl (by rw [List.replicate_succ', List.map_append]; rfl)
    · intro H1 e1 hD1
      refine ⟨_, _, rfl, sqL_of hD1, ?_⟩
      rw [all_tt]
      walk_at "go"
      refine ⟨_, x, rfl, e1.sqL hL, hx, fun H2 e2 => ?_⟩
      walk_at "go"
      refine ⟨_, _, rfl, .inl ⟨e2.sqL (e1.sqL hL), fun l hl => ?_⟩⟩
      exact hq _ l ((((Ext.new hl0).trans e1).trans e2).trans (Ext.new hl)) sqT_new
def spShowsC (K : PySem.W.Frag) : Sp := fun vs H Q _ => ∃ (a cl : Addr) (x : Dm) (k i : Nat), vs = [.ref a, .ref cl, .non] ∧ Wt K H a x ∧ SqT K H cl [.str "column", .str (lineS x), .int k, .int i, .str (tx (colV x k i))] ∧ 1 ≤ k ∧ k ≤ limit ∧ i < k ∧ ∀ H', Ext H H' → Q (.bl true) H'
theorem sc_shows_column : FnScope ["ways", "claim", "certificate", "switches", "index", "column", "trials"] ["ways", "claim", "certificate"] (defScope s_shows_column) := ⟨rfl, rfl, rfl, by decide +kernel, rfl, by decide +kernel, by decide +kernel⟩
theorem av_shows_column (T : Tx w K mg) (c : Tc K) (h : Here K mg "shows_column" "shows_column" s_shows_column) (A_is_number : Av P w K mg base "is_number" 2 ["value", "least", "most"] spIsNumber) (A_fewest_for : Av P w K mg base "fewest_for" 3 ["ways", "switches"] (spFewest K)) (A_is_signs_checker : Av P w K mg base "is_signs_checker" 1 ["value", "many"] spIsSigns) (A_split_of : Av P w K mg base "split_of" 1 ["ways"] (spSides K)) (A_place_of : Av P w K mg base "place_of" 4 ["ways", "column"] (spPlace K)) : Av P w K mg base "shows_column" 5 ["ways", "claim", "certificate"] (spShowsC K) := by
  refine av_mk h sc_shows_column (fun _ _ _ _ _ _ us hl => match us, hl with | [_, _, _], _ => rfl) (fun vs H Q E hs => ?_) (fun f cdv A outer s H vs Q E hr hs => ?_)
  · obtain ⟨a, cl, x, k, i, rfl, _⟩ := hs
    rfl
  obtain ⟨a, cl, x, k, i, rfl, hW, hC, h1, hK, hi, hq⟩ := hs
  refine ⟨_, (pss_cons (ps_par3 (i := 3) (j := 4) (l := 5) rfl sc_shows_column.nd rfl rfl rfl (by decide) (by decide) (by decide) rfl rfl rfl (pa_cons (pe_ix (ix_tupK (K := K) rfl) (pv 1) pe_int (fun _ _ => rfl)) (pa_cons (pe_ix (ix_tupK (K := K) rfl) (pv 1) pe_int (fun _ _ => rfl)) (pa_cons (pe_ix (ix_tupK (K := K) rfl) (pv 1) pe_int (fun _ _ => rfl)) pa_nil))) rfl)
    (pss_cons (ps_if (PW.pt (pw_or (pt_cmp (pc_notN (pv 2))) (pw_or (pt_not (pt_val (pe_callV (A_is_number.mono (by decide)) hr (by rfl) (pa_cons (pv 3) (pa_cons pe_int (pa_cons (pe_globI (by rfl) T.MOST_ASKED_checker) pa_nil)))))) (pw_or1 (pt_not (pt_val (pe_callV (A_is_number.mono (by decide)) hr (by rfl) (pa_cons (pv 4) (pa_cons pe_int (pa_cons (pe_op op_sub (pv 3) pe_int) pa_nil)))))))))) (pss_one (ps_ret pe_bl)) pss_nil)
    (pss_cons (ps_set (i := 6) sc_shows_column.nd rfl (Or.inl rfl) (pe_ifExp (pt_cmpR op_eq (pv 3) pe_int (nomark _)) pe_int (pe_callV (A_fewest_for.mono (by decide)) hr (by rfl) (pa_cons (pv 0) (pa_cons (pv 3) pa_nil)))))
    (pss_cons (ps_if (pt_not (pt_val (pe_callV (A_is_signs_checker.mono (by decide)) hr (by rfl) (pa_cons (pv 5) (pa_cons (pv 6) pa_nil))))) (pss_one (ps_ret pe_bl)) pss_nil)
    (pss_cons (ps_if (pt_cmpR op_eq (pv 3) pe_int (nomark _)) (pss_one (ps_ret pe_bl)) pss_nil)
    (pss_cons (ps_if (pt_cmpR op_eq (pe_ix (ix_tupK (K := K) rfl) (pe_callV (A_split_of.mono (by decide)) hr (by rfl) (pa_cons (pv 0) pa_nil)) pe_int (fun _ _ => rfl)) pe_int (nomark _)) (pss_one (ps_ret (pe_cmpR op_eq (pv 5) (pe_imp (t' := tHead K 0) (pe_op op_add_str (pe_ifExp (pt_cmpR (op_inK (K := K) rfl) pe_str (pv 0) (by rfl)) pe_str pe_str) (pe_ifExp (pt_cmpR (op_inK (K := K) rfl) pe_str (pv 0) (by rfl)) pe_str pe_str)) head_imp) (nomark _)))) pss_nil)
    (pss_one (ps_ret (pe_cmpR op_eq (pe_callV (A_place_of.mono (by decide)) hr (by rfl) (pa_cons (pv 0) (pa_cons (pv 5) pa_nil))) (pv 4) (nomark _)))))))))), ?_⟩
  have hk2 : k ≤ 10 ^ 40 := hK
  have hN := fewest_le x hK
  walk_at "go"
  refine ⟨_, _, _, _, rfl, rfl, hC, rfl, ?_⟩
  walk_at "go"
  refine ⟨_, _, _, _, rfl, rfl, hC, rfl, ?_⟩
  walk_at "go"
  refine ⟨_, _, _, _, rfl, rfl, hC, rfl, ?_⟩
  walk_at "go"
  by_cases hk1 : k = 1
  · subst hk1
    have hc : colV x 1 i = [] := if_pos rfl
    rw [hc]
    refine eT (by omega) ?_
    walk_at "go"
    refine ⟨Nat.zero_le _, fun H1 e1 => ?_⟩
    walk_at "go"
    exact hq _ e1
  · have hc : colV x k i = col x (fewest x k) i := if_neg hk1
    have hlen := col_len (x := x) hK (by omega : 2 ≤ k) hi
    refine eF (by omega) ?_
    walk_at "go"
    refine ⟨_, x, k, rfl, hW, fun H1 e1 => ?_⟩
    walk_at "go"
    refine ⟨colV x k i, by rw [hc, hlen], by rw [hc]; omega, fun H2 e2 => ?_⟩
    have e12 := e1.trans e2
    walk_at "go"
    refine ⟨_, x, rfl, e12.wt hW, fun H3 p e3 hp => ?_⟩
    have e13 := e12.trans e3
    have hW3 := e13.wt hW
    walk_at "go"
    refine ⟨_, _, _, _, rfl, rfl, sqT_of hp, rfl, ?_⟩
    walk_at "go"
    by_cases h0 : x.apart = 0
    · refine eT (by omega) ?_
      walk_at "go"
      refine ⟨_, x, rfl, hW3, ?_⟩
      walk_at "go"
      rw [hc, col_free h0, decide_eq_true rfl]
      exact hq _ e13
    · refine eF (by omega) ?_
      walk_at "go"
      refine ⟨_, x, k, i, by rw [hc], hW3, h0, by omega, hK, hi, fun H4 e4 => ?_⟩
      walk_at "go"
      rw [decide_eq_true rfl]
      exact hq _ (e13.trans e4)
def spAccepts (K : PySem.W.Frag) : Sp := fun vs H Q _ => ∃ (cl : Addr) (x : Dm) (k : Nat), vs = [.ref cl, .non] ∧ 1 ≤ k ∧ k ≤ limit ∧
  ((∃ t : Int, SqT K H cl [.str "fewest", .str (lineS x), .int k, .int t] ∧ ∀ H', Ext H H' → Q (.bl (decide (t = ((fewest x k : Nat) : Int)))) H') ∨
   (∃ i : Nat, SqT K H cl [.str "column", .str (lineS x), .int k, .int i, .str (tx (colV x k i))] ∧ i < k ∧ ∀ H', Ext H H' → Q (.bl true) H'))
theorem sc_accepts : FnScope ["claim", "certificate", "word", "plan", "ways"] ["claim", "certificate"] (defScope s_accepts) := ⟨rfl, rfl, rfl, by decide +kernel, rfl, by decide +kernel, by decide +kernel⟩
theorem av_accepts (T : Tx w K mg) (c : Tc K) (h : Here K mg "accepts" "accepts" s_accepts) (A_ways_in_checker : Av P w K mg base "ways_in_checker" 2 ["text"] (spWaysIn K)) (A_shows_fewest : Av P w K mg base "shows_fewest" 4 ["ways", "switches", "trials", "certificate"] (spShowsF K)) (A_shows_column : Av P w K mg base "shows_column" 5 ["ways", "claim", "certificate"] (spShowsC K)) : Av P w K mg base "accepts" 6 ["claim", "certificate"] (spAccepts K) := by
  refine av_mk h sc_accepts (fun _ _ _ _ _ _ us hl => match us, hl with | [_, _], _ => rfl) (fun vs H Q E hs => ?_) (fun f cdv A outer s H vs Q E hr hs => ?_)
  · obtain ⟨a, x, k, rfl, _⟩ := hs
    rfl
  obtain ⟨cl, x, k, rfl, h1, hK, hs⟩ := hs
  obtain ⟨es, n, D⟩ := T.sizes
  refine ⟨_, (pss_cons (ps_if (PW.pt (pw_or (pt_not (pt_val (pe_callB (isi_K (K := K) rfl) (by rfl) T.isinstance (by decide +kernel) (pa_cons (pv 0) (pa_cons (pe_bltn (v := .ty "tuple") (by rfl) T.tuple_ (by decide +kernel) rfl) pa_nil))))) (pw_or (pt_cmpR op_eq (pe_callB (call_lenK (K := K) rfl) (by rfl) T.len PySem.boot_len (pa_cons (pv 0) pa_nil)) pe_int (nomark _)) (pw_or1 (pt_not (pt_val (pe_callB (isi_K (K := K) rfl) (by rfl) T.isinstance (by decide +kernel) (pa_cons (pe_ix (ix_tupK (K := K) rfl) (pv 0) pe_int (fun _ _ => rfl)) (pa_cons (pe_bltn (v := .ty "str") (by rfl) T.str_ (by decide +kernel) rfl) pa_nil))))))))) (pss_one (ps_ret pe_bl)) pss_nil)
    (pss_cons (ps_set (i := 2) sc_accepts.nd rfl (Or.inl rfl) (pe_ix (ix_tupK (K := K) rfl) (pv 0) pe_int (fun _ _ => rfl)))
    (pss_cons (ps_if (pt_cmpR op_ne (pe_kget D (pe_globR (by rfl) T.SIZES) (pv 2) pe_int ⟨rfl, rfl, rfl, rfl⟩) (pe_callB (call_lenK (K := K) rfl) (by rfl) T.len PySem.boot_len (pa_cons (pv 0) pa_nil)) (nomark _)) (pss_one (ps_ret pe_bl)) pss_nil)
    (pss_cons (ps_if (pt_cmpR op_eq (pv 2) pe_str (nomark _)) (pss_cons ps_never
    (pss_one ps_never)) pss_nil)
    (pss_cons (ps_set (i := 4) sc_accepts.nd rfl (Or.inl rfl) (pe_callV (A_ways_in_checker.mono (by decide)) hr (by rfl) (pa_cons (pe_ix (ix_tupK (K := K) rfl) (pv 0) pe_int (fun _ _ => rfl)) pa_nil)))
    (pss_cons (ps_if (pt_cmp (pc_isN (pv 4))) (pss_one (ps_ret pe_bl)) pss_nil)
    (pss_cons (ps_if (pt_cmpR op_eq (pv 2) pe_str (nomark _)) (pss_one (ps_ret (pe_callV (A_shows_fewest.mono (by decide)) hr (by rfl) (pa_cons (pv 4) (pa_cons (pe_ix (ix_tupK (K := K) rfl) (pv 0) pe_int (fun _ _ => rfl)) (pa_cons (pe_ix (ix_tupK (K := K) rfl) (pv 0) pe_int (fun _ _ => rfl)) (pa_cons (pv 1) pa_nil))))))) pss_nil)
    (pss_cons (ps_if (pt_cmpR op_eq (pv 2) pe_str (nomark _)) (pss_one (ps_ret (pe_callV (A_shows_column.mono (by decide)) hr (by rfl) (pa_cons (pv 4) (pa_cons (pv 0) (pa_cons (pv 1) pa_nil)))))) pss_nil)
    (pss_cons ps_never
    (pss_cons ps_never
    (pss_cons ps_never
    (pss_cons ps_never
    (pss_cons ps_never
    (pss_one ps_never)))))))))))))), ?_⟩
  walk_at "go"
  rcases hs with ⟨t, hC, hq⟩ | ⟨i, hC, hi, hq⟩
  · walk_at "go"
    refine ⟨_, _, _, _, rfl, rfl, hC, rfl, ?_⟩
    walk_at "go"
    refine ⟨_, _, _, _, rfl, rfl, hC, rfl, ?_⟩
    walk_at "go"
    refine ⟨rfl, ?_⟩
    walk_at "go"
    obtain ⟨tok, hsz⟩ := T.size_f
    refine ⟨_, some (.int 4 tok), .int 4, rfl, hsz, ⟨_, rfl⟩, ?_⟩
    walk_at "go"
    refine ⟨_, _, _, _, rfl, rfl, hC, rfl, ?_⟩
    walk_at "go"
    intro H1 p e1 hp
    have hC1 := e1.sqT hC
    walk_at "go"
    refine ⟨_, _, _, _, rfl, rfl, hC1, rfl, ?_⟩
    walk_at "go"
    refine ⟨_, _, _, _, rfl, rfl, hC1, rfl, ?_⟩
    walk_at "go"
    exact ⟨p, x, k, t, rfl, hp, h1, hK, fun H2 e2 => hq H2 (e1.trans e2)⟩
  · walk_at "go"
    refine ⟨_, _, _, _, rfl, rfl, hC, rfl, ?_⟩
    walk_at "go"
    refine ⟨_, _, _, _, rfl, rfl, hC, rfl, ?_⟩
    walk_at "go"
    refine ⟨rfl, ?_⟩
    walk_at "go"
    obtain ⟨tok, hsz⟩ := T.size_c
    refine ⟨_, some (.int 5 tok), .int 5, rfl, hsz, ⟨_, rfl⟩, ?_⟩
    walk_at "go"
    refine ⟨_, _, _, _, rfl, rfl, hC, rfl, ?_⟩
    walk_at "go"
    intro H1 p e1 hp
    have hC1 := e1.sqT hC
    walk_at "go"
    exact ⟨p, cl, x, k, i, rfl, hp, hC1, h1, hK, hi, fun H2 e2 => hq H2 (e1.trans e2)⟩
end
end FwW
end
section
set_option Elab.async false
set_option linter.all false
set_option maxRecDepth 100000
set_option maxHeartbeats 4000000
/-! More rules: str of an own instance, a class called with a default left out, enumerate over a tuple by K. -/
namespace FwW
open PySem PySem.Spec PyProof.Rows L2 FwR FwH Fw
def strR (C : Addr) (sp : Sp) : List V → Hp → VK → Prop := fun xs H Q => ∃ a dx fs, xs = [.ref a] ∧ H a = some (.ins C dx fs) ∧ sp [.ref a] H (fun v H' => ∃ z, v = .str z ∧ Q v H') E0
section
variable {X : Cx} {K : PySem.W.Frag} {k : Nat} {C f : Addr} {ps : List Str} {sp : Sp} {e : Expr} {es : List Expr} {pos : Pos} {t : TA}
theorem cr_strV (hK : X.K = K) (cl : Cls K C) (hm : Meth K C "__str__" f) (M : Mv X.prog X.w K X.mg X.base f k ps sp) (hr : Room (k + 2) X.A) : CallR X (.type "str") (strR C sp) := by
  subst hK
  obtain ⟨fd, F, b⟩ := M
  exact cr_strOwn cl hm F b hr
theorem pi_enumUK {ta : TA} {p tpos : Pos} {elts : List Expr} {kk : Nat} (hK : X.K = K) (hg : Gl X "enumerate") (hm : X.mg "enumerate" = none) (ha : PA X [e] ta) (hs : starEach [e] X.env = [(false, eval e X.env)] := by rfl) :
    PI X (.Tuple elts kk tpos) (.Call (.Name "enumerate" p) [e] [] pos) (iEnumU K ta) := by subst hK; exact pi_enumU hg hm ha hs
end
/-- a def whose last parameter has the default d -/
def MvD (P : Program) (w : World) (K : PySem.W.Frag) (mg : Str → Option Value) (base : Heap) (f : Addr) (k : Nat) (ps : List Str) (d : V) (sp : Sp) : Prop := ∃ fd, FnOk P w K mg base CX0 k f fd ps sp ∧ Binds K fd ps [] ∧ ∃ ds, Vals [d] ds ∧ Binds K fd ps ds
section
variable {P : Program} {w : World} {K : PySem.W.Frag} {mg : Str → Option Value} {base : Heap} {f : Addr} {k : Nat} {ps : List Str} {d : V} {sp : Sp}
theorem MvD.all (m : MvD P w K mg base f k ps d sp) : Mv P w K mg base f k ps sp :=
  let ⟨fd, F, b, _⟩ := m
  ⟨fd, F, b⟩
theorem MvD.mono {j : Nat} (a : MvD P w K mg base f j ps d sp) (h : j ≤ k) : MvD P w K mg base f k ps d sp :=
  let ⟨fd, F, b, r⟩ := a
  ⟨fd, F.mono h, b, r⟩
theorem mvD_mk {x q : Str} {st : Stmt} {N : List Str} {n : Nat} (h : HereM K f x q st [d]) (S : FnScope N ps (defScope st)) (hn : n + 1 = ps.length)
    (hb1 : ∀ (T : Addr) (kV doc pm : Value) (an : Option Addr) (cdv ct : Value) (us its : List Value), us.length = n + 1 → its.length = 1 →
      ∃ k, bindArgs (PySem.W.fnOf x q (defArgs st) (defBody st) (defScope st) (.ref T) kV doc pm an cdv ct) ⟨us, []⟩ = seqItems? (.ref T) >>= k ∧ k (some its.toArray) = pure (ps.zip (us ++ its.drop 1)))
    (hb0 : ∀ (T : Addr) (kV doc pm : Value) (an : Option Addr) (cdv ct : Value) (us its : List Value), us.length = n → its.length = 1 →
      ∃ k, bindArgs (PySem.W.fnOf x q (defArgs st) (defBody st) (defScope st) (.ref T) kV doc pm an cdv ct) ⟨us, []⟩ = seqItems? (.ref T) >>= k ∧ k (some its.toArray) = pure (ps.zip (us ++ its.drop 0)))
    (len : ∀ vs H Q E, sp vs H Q E → vs.length = ps.length)
    (body : ∀ (cdv : Value) (A : Around) (outer : List Env) (s : Shared) (H : Hp) (vs : List V) (Q : VK) (E : XK), Room k (A.deeper (envOfC q (defScope st) s.heap.objs.size f cdv)) → sp vs H Q E →
      ∃ t, PSs (cxOf CX0 P w K mg base N q (defScope st) f cdv A outer s H E).nox (defBody st) t ∧ t { nx := fun _ H' => Q .non H', rt := Q } (start N vs) H) : MvD P w K mg base f (k + 1) ps d sp := by
  obtain ⟨fd, F⟩ := h
  obtain ⟨ds1, v1, b1⟩ := F.binds1 (ps := ps) (n + 1) 1 (List.cons_ne_nil _ _) (by show n + 1 + 0 = _; omega) hb1
  obtain ⟨ds0, v0, b0⟩ := F.binds1 (ps := ps) n 0 (List.cons_ne_nil _ _) (by show n + 1 = _; omega) hb0
  have e1 : ds1 = [] := by cases v1; rfl
  subst e1
  refine ⟨fd, F.ok S len fun cdv A outer s H vs Q E hr hsp => ?_, b1, ds0, v0, b0⟩
  obtain ⟨t, ht, q⟩ := body cdv A outer s H vs Q E hr hsp
  exact ⟨t, ht.nox, q⟩
end
/-- C(e, ..), the last parameter left out -/
def tMakeD (C : Addr) (d : V) (sp : Sp) (t : TA) : TE := fun σ H Q => t σ H fun vs H1 => ∀ x dx, H1 x = Option.none → H1 dx = Option.none → dx ≠ x →
  sp (.ref x :: (vs ++ [d])) (upd (upd H1 dx (.own x)) x (.ins C dx [])) (fun v H2 => v = .non ∧ Q (.ref x) H2) E0
theorem pe_makeD {X : Cx} {K : PySem.W.Frag} {k : Nat} {C f : Addr} {ps : List Str} {d : V} {sp : Sp} {e : Expr} {es : List Expr} {pos q : Pos} {t : TA} {x : Str} (hK : X.K = K) (hg : Gl X x) (hm : X.mg x = some (.ref C)) (Mk' : Mk K C f) (M : MvD X.prog X.w K X.mg X.base f k ps d sp) (hr : Room (k + 1) X.A) (ha : PA X (e :: es) t)
    (hdb : (x == ("__debug__" : Str)) = false := by decide) (he : starEach (e :: es) X.env = (false, eval e X.env) :: starEach es X.env := by rfl) (hpl : (backTo pos (starEach es X.env)).any (·.1) = false := by rfl) :
    PE X (.Call (.Name x q) (e :: es) [] pos) (tMakeD C d sp t) := by
  subst hK
  obtain ⟨fd, F, _, ds, hv, hb⟩ := M
  exact pe_make (p := q) (pos := pos) Mk' F hr hg hm hb hv (pass0 (X := X)) ha hdb he hpl
/-- as Av, callable by keywords alone too, written in the order ks (the parameters backwards) -/
def Av2 (P : Program) (w : World) (K : PySem.W.Frag) (mg : Str → Option Value) (base : Heap) (x : Str) (k : Nat) (ps ks : List Str) (sp : Sp) : Prop :=
  ∃ f fd, FnOk P w K mg base CX0 k f fd ps sp ∧ mg x = some (.ref f) ∧ PySem.W.keepIn K (.ref f) = true ∧ Binds K fd ps [] ∧ KBn K fd ps 0 ks (fun _ ws => ws.reverse) (fun _ zs => zs.reverse)
section
variable {P : Program} {w : World} {K : PySem.W.Frag} {mg : Str → Option Value} {base : Heap}
theorem Av2.av {x : Str} {k : Nat} {ps ks : List Str} {sp : Sp} (a : Av2 P w K mg base x k ps ks sp) : Av P w K mg base x k ps sp :=
  let ⟨f, fd, F, m, kp, b, _⟩ := a
  ⟨f, fd, F, m, kp, b⟩
theorem Av2.mono {x : Str} {j k : Nat} {ps ks : List Str} {sp : Sp} (a : Av2 P w K mg base x j ps ks sp) (h : j ≤ k) : Av2 P w K mg base x k ps ks sp :=
  let ⟨f, fd, F, m, kp, b, r⟩ := a
  ⟨f, fd, F.mono h, m, kp, b, r⟩
theorem vals_rev : ∀ {zs : List V} {ws : List Value}, Vals zs ws → Vals zs.reverse ws.reverse := fun r => r.reverse
theorem av2_mk {g x : Str} {st : Stmt} {N ps ks : List Str} {k : Nat} {sp : Sp} (h : Here K mg g x st) (S : FnScope N ps (defScope st))
    (hb : ∀ (kV doc pm : Value) (an : Option Addr) (cdv ct : Value) (us : List Value), us.length = ps.length → bindArgs (PySem.W.fnOf x x (defArgs st) (defBody st) (defScope st) .none kV doc pm an cdv ct) ⟨us, []⟩ = pure (ps.zip us))
    (hk : ∀ (kV doc pm : Value) (an : Option Addr) (cdv ct : Value) (ws : List Value), ws.length = ks.length → bindArgs (PySem.W.fnOf x x (defArgs st) (defBody st) (defScope st) .none kV doc pm an cdv ct) ⟨[], ks.zip ws⟩ = pure (ps.zip ws.reverse))
    (len : ∀ vs H Q E, sp vs H Q E → vs.length = ps.length)
    (body : ∀ (f : Addr) (cdv : Value) (A : Around) (outer : List Env) (s : Shared) (H : Hp) (vs : List V) (Q : VK) (E : XK), Room k (A.deeper (envOfC x (defScope st) s.heap.objs.size f cdv)) → sp vs H Q E →
      ∃ t, PSs (cxOf CX0 P w K mg base N x (defScope st) f cdv A outer s H E).nox (defBody st) t ∧ t { nx := fun _ H' => Q .non H', rt := Q } (start N vs) H) : Av2 P w K mg base g (k + 1) ps ks sp := by
  obtain ⟨f, fd, F, m⟩ := h
  refine ⟨f, fd, F.ok S len fun cdv A outer s H vs Q E hr hsp => ?_, m, F.kp, F.bindsN hb, ⟨fun s us ws X l1 l2 => ?_, fun _ r2 => r2.reverse⟩⟩
  · obtain ⟨t, ht, q⟩ := body f cdv A outer s H vs Q E hr hsp
    exact ⟨t, ht.nox, q⟩
  · obtain ⟨oc, od, dV, kV, doc, pm, an, cdv, ct, osl, rfl, lk, hcd, hD, hK⟩ := F.ex
    rcases hD with ⟨_, rfl⟩ | ⟨e, _⟩
    · have e0 : us = [] := List.length_eq_zero_iff.mp l1
      subst e0
      exact .of_eq (hk kV doc pm an cdv ct ws l2)
    · exact absurd rfl e
end
theorem pe_callK2 {X : Cx} {K : PySem.W.Frag} {x : Str} {k : Nat} {ps ks : List Str} {sp : Sp} {p pos : Pos} {kws : List Keyword} {tk : TA} (hK : X.K = K) (a : Av2 X.prog X.w K X.mg X.base x k ps ks sp) (hr : Room k X.A) (hg : Gl X x)
    (hkw : PK X kws tk) (hall : (backToKw pos (keywordEach kws X.env)).all (·.1.isSome) = true := by rfl) (hks : (backToKw pos (keywordEach kws X.env)).filterMap (·.1) = ks := by rfl)
    (hdb : (x == ("__debug__" : Str)) = false := by decide) (hpl : ((backTo pos (starEach [] X.env)).any (·.1) || (backToKw pos (keywordEach kws X.env)).any (·.1.isNone)) = false := by rfl) :
    PE X (.Call (.Name x p) [] kws pos) (fun σ H Q => tk σ H fun zs H1 => zs.length = ks.length ∧ sp zs.reverse H1 Q E0) := by
  subst hK
  obtain ⟨f, fd, F, m, kp, _, hb⟩ := a
  exact pe_callK0 F hr hg m kp hb (pass0 (X := X)) hkw hall hks hdb hpl
end FwW
end
section
set_option Elab.async false
set_option linter.all false
set_option maxRecDepth 100000
set_option maxHeartbeats 4000000
namespace FwW
open PySem PySem.Spec PyProof.Rows L2 FwR FwH Fw
local macro_rules | `(tactic| walk_at "go") => `(tactic| (repeat (first | refine ⟨_, rfl, ?_⟩ | refine ⟨_, _, rfl, rfl, ?_⟩ | refine ⟨_, _, rfl, lenTx (by assumption), ?_⟩ | refine ⟨_, _, rfl, ?_⟩ | refine ⟨_, _, _, rfl, ?_⟩ | refine ⟨Or.inl ⟨by omega, by omega⟩, ?_⟩ | refine ⟨Or.inr ⟨by omega, by omega⟩, ?_⟩ | refine ⟨⟨by omega, by omega⟩, ?_⟩ | refine ⟨(rfl : ("str" : String) = "str"), ?_⟩ | refine ⟨_, _, rfl, sqT_new, rfl, ?_⟩ | refine ⟨_, _, rfl, sqT_of (by assumption), rfl, ?_⟩ | refine ⟨⟨_, rfl⟩, ?_⟩ | refine And.intro scS ?_ | refine And.intro scI ?_ | refine And.intro (short (Nat.le_of_ble_eq_true rfl)) ?_ | refine ⟨_, _, rfl, .inr (by assumption), rfl, ws_flat _, ?_⟩ | refine ⟨_, _, rfl, lenT (by assumption), ?_⟩ | refine ⟨_, _, rfl, lenL (by assumption), ?_⟩ | refine ⟨_, _, _, _, _, rfl, by assumption, Tc.dcls (by assumption), Tc.dkept (by assumption), rfl, ?_⟩ | refine And.intro (by omega) ?_ | refine ⟨_, _, _, _, _, rfl, .ty _, .base (.int _), kit_ii, ?_⟩ | refine ⟨_, _, _, _, _, rfl, .ty _, .base (.int _), kit_ib, ?_⟩ | refine ⟨_, _, _, _, _, rfl, .ty _, .base (.str _), kit_ss, ?_⟩ | refine ⟨_, _, _, _, _, rfl, .ty _, .base (.bl _), kit_bb, ?_⟩ | refine ⟨_, _, _, _, _, rfl, .ty _, ty_t (by assumption), kit_tt, ?_⟩ | refine iteT ?_ | refine iteF ?_ | refine niT ?_ | refine nsT ?_ | refine nrT ?_ | refine nnF ?_ | refine iiF ?_ | refine isF ?_ | refine irF ?_ | refine nnT ?_ | refine eT (by omega) ?_ | refine eF (by omega) ?_ | refine nT (by omega) ?_ | refine nF (by omega) ?_ | refine dT (by omega) ?_ | refine dF (by omega) ?_)))
section
variable {P : Program} {w : World} {K : PySem.W.Frag} {mg : Str → Option Value} {base : Heap}
def rowsV (rows : List Bits) : List V := rows.map fun l => V.str (tx l)
theorem rowsV_at {rows : List Bits} {i : Nat} {v : V} (h : (rowsV rows)[i]? = some v) : ∃ l, rows[i]? = some l ∧ v = .str (tx l) := by
  unfold rowsV at h
  rw [List.getElem?_map] at h
  obtain ⟨l, h1, rfl⟩ := Option.map_eq_some_iff.mp h
  exact ⟨l, h1, rfl⟩
def spTrial (K : PySem.W.Frag) : Sp := fun vs H Q _ => ∃ (a : Addr) (rows : List Bits) (k : Nat), vs = [.ref a, .int k] ∧ SqT K H a (rowsV rows) ∧ (∀ l ∈ rows, l.length = k) ∧ k ≤ 64 ∧ rows.length ≤ 64 ∧ ∀ H', Ext H H' → Q (.int (-1)) H'
theorem sc_wrong_trial : FnScope ["trials", "switches", "k", "trial"] ["trials", "switches"] (defScope s_wrong_trial) := ⟨rfl, rfl, rfl, by decide +kernel, rfl, by decide +kernel, by decide +kernel⟩
theorem av_wrong_trial (T : Tx w K mg) (c : Tc K) (h : Here K mg "wrong_trial" "wrong_trial" s_wrong_trial) (A_is_signs_values : Av P w K mg base "is_signs_values" 1 ["value", "many"] spIsSigns) : Av P w K mg base "wrong_trial" 2 ["trials", "switches"] (spTrial K) := by
  refine av_mk h sc_wrong_trial (fun _ _ _ _ _ _ us hl => match us, hl with | [_, _], _ => rfl) (fun vs H Q E hs => ?_) (fun f cdv A outer s H vs Q E hr hs => ?_)
  · obtain ⟨a, x, k, rfl, _⟩ := hs
    rfl
  obtain ⟨a, rows, k, rfl, hR, hl, hk, hn, hq⟩ := hs
  refine ⟨_, (pss_cons (ps_if (pt_not (pt_val (pe_callB (isi_K (K := K) rfl) (by rfl) T.isinstance (by decide +kernel) (pa_cons (pv 0) (pa_cons (pe_bltn (v := .ty "tuple") (by rfl) T.tuple_ (by decide +kernel) rfl) pa_nil))))) (pss_one (ps_ret pe_non)) pss_nil)
    (pss_cons (ps_for PassesOwn.never rfl (pi_enumUK (K := K) rfl (by rfl) T.enumerate (pa_cons (pv 0) pa_nil)) (pg_tupK (K := K) (n := 2) rfl rfl (pgs_cons (pg_name (i := 2) sc_wrong_trial.nd rfl (Or.inl rfl)) (pgs_cons (pg_name (i := 3) sc_wrong_trial.nd rfl (Or.inl rfl)) pgs_nil)))
    (pss_one (ps_if (PW.pt (pw_or (pt_not (pt_val (pe_callV (A_is_signs_values.mono (by decide)) hr (by rfl) (pa_cons (pv 3) (pa_cons (pv 1) pa_nil))))) (pw_or1 (pt_cmpR op_eq (pv 2) (pe_globI (by rfl) T.MOST_TRIALS) (nomark _))))) (pss_one (ps_ret (pv 2))) pss_nil)))
    (pss_one (ps_ret (pe_un un_neg pe_int))))), ?_⟩
  walk_at "go"
  refine ⟨_, _, rfl, hR, ?_⟩
  refine for_it (walk_u (xs := rowsV rows)) (fun j σ H' => Ext H H' ∧ ∃ (u v : Option V), σ = [some (.ref a), some (.int k), u, v]) ⟨Ext.refl, _, _, rfl⟩ (fun i σ H' _ h => h.1.sqT hR) ?_ ?_
  · rintro j x σ H1 H2 hj ⟨e1, u, v, rfl⟩ ⟨p, y, z, rfl, hp, rfl, hy, hz⟩
    cases hy
    obtain ⟨l, hl1, rfl⟩ := rowsV_at hz
    have hll := hl l (List.mem_of_getElem? hl1)
    have e2 : Ext H (upd H1 p (.tup [.int (j : Nat), .str (tx l)])) := e1.trans (Ext.new hp)
    have hj2 : j < 64 := by
      have : j < (rowsV rows).length := hj
      unfold rowsV at this
      rw [List.length_map] at this
      omega
    walk_at "go"
    refine ⟨l, by rw [hll], by omega, fun H3 e3 => ?_⟩
    have e4 := e2.trans e3
    walk_at "go"
    exact ⟨_, _, rfl⟩
  · rintro σ H' ⟨e1, u, v, rfl⟩
    walk_at "go"
    exact hq _ e1
def spPInit (K : PySem.W.Frag) : Sp := fun vs H Q _ => ∃ (o t dx : Addr) (rows : List Bits) (k : Nat), vs = [.ref o, .int k, .ref t] ∧ H o = some (.ins (gP K) dx []) ∧ SqT K H t (rowsV rows) ∧ (∀ l ∈ rows, l.length = k) ∧ 1 ≤ k ∧ k ≤ 64 ∧ rows.length ≤ 64 ∧
  ∀ H1, Ext H H1 → Q .non (upd H1 o (.ins (gP K) dx [("many", .int k), ("rows", .ref t)]))
theorem sc_Plan_init : FnScope ["self", "switches", "trials", "wrong"] ["self", "switches", "trials"] (defScope sPlan_init) := ⟨rfl, rfl, rfl, by decide +kernel, rfl, by decide +kernel, by decide +kernel⟩
theorem mv_Plan_init (T : Tx w K mg) (c : Tc K) (h : HereM K (He.ma K (gP K) "__init__") "__init__" "Plan.__init__" sPlan_init [.ref (emptyT K)]) (A_check_few_switches : Av P w K mg base "check_few_switches" 3 ["switches"] spCheckFew) (A_wrong_trial : Av P w K mg base "wrong_trial" 2 ["trials", "switches"] (spTrial K)) : MvD P w K mg base (He.ma K (gP K) "__init__") 4 ["self", "switches", "trials"] (.ref (emptyT K)) (spPInit K) := by
  refine mvD_mk (n := 2) h sc_Plan_init rfl (fun T kV doc pm an cdv ct us its hl hl2 => match us, its, hl, hl2 with | [_, _, _], [_], _, _ => ⟨_, rfl, rfl⟩) (fun T kV doc pm an cdv ct us its hl hl2 => match us, its, hl, hl2 with | [_, _], [_], _, _ => ⟨_, rfl, rfl⟩) (fun vs H Q E hs => ?_) (fun cdv A outer s H vs Q E hr hs => ?_)
  · obtain ⟨o, t, dx, rows, k, rfl, _⟩ := hs
    rfl
  obtain ⟨o, t, dx, rows, k, rfl, ho, hR, hl, hk1, hk, hn, hq⟩ := hs
  refine ⟨_, (pss_cons (ps_expr (pe_callV (A_check_few_switches.mono (by decide)) hr (by rfl) (pa_cons (pv 1) pa_nil)))
    (pss_cons (ps_set (i := 3) sc_Plan_init.nd rfl (Or.inl rfl) (pe_callV (A_wrong_trial.mono (by decide)) hr (by rfl) (pa_cons (pv 2) (pa_cons (pv 1) pa_nil))))
    (pss_cons (ps_if (pt_cmpR op_ne (pv 3) (pe_un un_neg pe_int) (nomark _)) (pss_one ps_never) pss_nil)
    (pss_cons (ps_fld (pv 0) (pv 1) rfl)
    (pss_one (ps_fld (pv 0) (pv 2) rfl)))))), ?_⟩
  walk_at "go"
  refine ⟨t, rows, k, rfl, hR, hl, hk, hn, fun H1 e1 => ?_⟩
  walk_at "go"
  have ho1 := e1 _ _ ho
  refine ⟨_, _, _, _, rfl, ho1, c.pcls, c.pmany, Nat.le_of_ble_eq_true rfl, ?_⟩
  walk_at "go"
  refine ⟨_, _, _, _, rfl, upd_same, c.pcls, c.prows, Nat.le_of_ble_eq_true rfl, ?_⟩
  rw [upd_upd]
  exact hq H1 e1
def rowsOf (cs : List Bits) (n : Nat) : List Bits := (List.range n).map fun j => cs.map fun c => c.getD j false
theorem made_ext0 {H H1 : Hp} {o dx : Addr} {u v u2 : HO} (ho : H o = none) (hdx : H dx = none) (e1 : Ext (upd (upd H dx u) o v) H1) : Ext H (upd H1 o u2) := by
  intro a q ha
  have n1 : a ≠ o := fun e => by subst e; rw [ho] at ha; cases ha
  have n2 : a ≠ dx := fun e => by subst e; rw [hdx] at ha; cases ha
  rw [upd_ne n1]
  exact e1 a q (by rw [upd_ne n1, upd_ne n2]; exact ha)
theorem put_ext {H : Hp} {o dx : Addr} {u v : HO} (ho : H o = none) (hdx : H dx = none) (hne : dx ≠ o) : Ext H (upd (upd H dx u) o v) :=
  (Ext.new hdx).trans (Ext.new (by rw [upd_ne (Ne.symm hne)]; exact ho))
theorem few_64 (x : Dm) {k : Nat} (hk : k ≤ 64) : few x k 64 = false := by
  have b1 : 64 ≤ 2 ^ (64 - 2) := by decide
  have b2 : 64 ≤ C (64 - 1) (64 / 2 - 1) := by rw [← Cm_eq]; decide +kernel
  have b3 : 64 ≤ C 64 (64 / 2 + 0) := by rw [← Cm_eq]; decide +kernel
  have b4 : 64 ≤ C 64 (64 / 2 + 1) := by rw [← Cm_eq]; decide +kernel
  unfold few most
  by_cases h0 : x.apart = 0
  · rw [if_pos h0, if_pos (show x.same ≤ 64 by have := x.same_le; omega)]
  · rw [if_neg h0]
    by_cases h1 : x.apart = 1
    · rw [if_pos h1]
      have h3 : (2 : Nat) ^ (64 - 2) ≤ 2 ^ (64 - x.same) := Nat.pow_le_pow_right (by decide) (by have := x.same_le; omega)
      exact decide_eq_false (by omega)
    · rw [if_neg h1]
      by_cases h2 : x.same = 2
      · rw [if_pos h2]
        exact decide_eq_false (by omega)
      · rw [if_neg h2]
        have hs : x.same = 0 ∨ x.same = 1 := by have := x.same_le; omega
        rcases hs with e | e
        · rw [e]; exact decide_eq_false (by omega)
        · rw [e]; exact decide_eq_false (by omega)
theorem fewest_64 (x : Dm) {k : Nat} (hk : k ≤ 64) : fewest x k ≤ 64 := fewest_least x (Nat.le_trans hk (by decide)) (few_64 x hk)
theorem rowsOf_len {cs : List Bits} {n : Nat} : (rowsOf cs n).length = n := by unfold rowsOf; rw [List.length_map, List.length_range]
theorem rowsOf_each {cs : List Bits} {n : Nat} : ∀ l ∈ rowsOf cs n, l.length = cs.length := by
  intro l hl
  obtain ⟨j, _, rfl⟩ := List.mem_map.mp hl
  exact List.length_map _
theorem rowsOf_succ (cs : List Bits) (n : Nat) : rowsV (rowsOf cs (n + 1)) = rowsV (rowsOf cs n) ++ [.str (tx (cs.map fun c => c.getD n false))] := by
  unfold rowsV rowsOf
  rw [List.range_succ, List.map_append, List.map_append]; rfl
theorem range_map_succ {α : Type} (f : Nat → α) (n : Nat) : (List.range (n + 1)).map f = (List.range n).map f ++ [f n] := by rw [List.range_succ, List.map_append]; rfl
theorem flat_ones (f : Bits → Bool) : ∀ cs : List Bits, (cs.map fun c => [f c]).flatten = cs.map f
  | [] => rfl
  | c :: cs => congrArg (f c :: ·) (flat_ones f cs)
theorem join_ones' (f : Bits → Bool) (cs : List Bits) : Txt.join "" (cs.map fun c => tx [f c]) = tx (cs.map f) := by
  have h := join_tx (cs.map fun c => [f c])
  rw [List.map_map, flat_ones] at h
  exact h
theorem sum_ones (f : Bits → Bool) : ∀ cs : List Bits, ((cs.map fun c => tx [f c]).map (·.length)).sum = cs.length
  | [] => rfl
  | c :: cs => by
    rw [List.map_cons, List.map_cons, List.sum_cons, sum_ones f cs, tx_len]
    show 1 + cs.length = cs.length + 1
    omega
theorem colV_len {x : Dm} {k i : Nat} (hk : k ≤ limit) (hi : i < k) : (colV x k i).length = fewest x k := by
  unfold colV
  by_cases h1 : k = 1
  · subst h1
    rw [if_pos rfl, fewest_one]
    rfl
  · rw [if_neg h1]
    exact col_len (x := x) hk (by omega) hi
def spBestPlan (K : PySem.W.Frag) : Sp := fun vs H Q _ => ∃ (a : Addr) (x : Dm) (k : Nat), vs = [.ref a, .int k] ∧ Wt K H a x ∧ 1 ≤ k ∧ k ≤ 64 ∧ ∀ H' o, Ext H H' → IsP K H' o k (rowsOf ((List.range k).map (colV x k)) (fewest x k)) → Q (.ref o) H'
theorem sc_best_plan : FnScope ["ways", "switches", "trials", "columns", "k", "column"] ["ways", "switches"] (defScope s_best_plan) := ⟨rfl, rfl, rfl, by decide +kernel, rfl, by decide +kernel, by decide +kernel⟩
theorem av_best_plan (T : Tx w K mg) (c : Tc K) (M_Plan_init : MvD P w K mg base (He.ma K (gP K) "__init__") 4 ["self", "switches", "trials"] (.ref (emptyT K)) (spPInit K)) (h : Here K mg "best_plan" "best_plan" s_best_plan) (A_fewest_of : Av P w K mg base "fewest_of" 3 ["ways", "switches"] (spFewest K)) (A_column_of : Av P w K mg base "column_of" 4 ["ways", "trials", "index"] (spColumn K)) : Av P w K mg base "best_plan" 6 ["ways", "switches"] (spBestPlan K) := by
  refine av_mk h sc_best_plan (fun _ _ _ _ _ _ us hl => match us, hl with | [_, _], _ => rfl) (fun vs H Q E hs => ?_) (fun f cdv A outer s H vs Q E hr hs => ?_)
  · obtain ⟨a, x, k, rfl, _⟩ := hs
    rfl
  obtain ⟨a, x, k, rfl, hW, h1, hk, hq⟩ := hs
  refine ⟨_, (pss_cons (ps_if (pt_cmpR op_eq (pv 1) pe_int (nomark _)) (pss_one (ps_ret (pe_makeD (K := K) rfl (by rfl) T.Plan c.pmk M_Plan_init hr (pa_cons pe_int pa_nil)))) pss_nil)
    (pss_cons (ps_set (i := 2) sc_best_plan.nd rfl (Or.inr rfl) (pe_callV (A_fewest_of.mono (by decide)) hr (by rfl) (pa_cons (pv 0) (pa_cons (pv 1) pa_nil))))
    (pss_cons (ps_set (i := 3) sc_best_plan.nd rfl (Or.inr rfl) (pe_lc (own := [("k", 4)]) (g := gName 4) (by rfl) sc_best_plan.nd (pi_range1 (by rfl) T.range (pa_cons (pv 1) pa_nil)) (blkOk_by (own := [("k", 4)]) (N := ["ways", "switches", "trials", "columns", "k", "column"]) (sc := (defScope s_best_plan)) (by decide +kernel)) (fun _ _ _ _ _ => (pg_name (i := 4) sc_best_plan.nd rfl (Or.inl rfl))) (fun _ _ _ _ _ => pts_nil) (fun _ _ _ _ _ => (pe_callV (A_column_of.mono (by decide)) hr (by rfl) (pa_cons (pv 0) (pa_cons (pv 2) (pa_cons (pv 4) pa_nil)))))))
    (pss_one (ps_ret (pe_makeV (K := K) rfl (by rfl) T.Plan c.pmk M_Plan_init.all hr (pa_cons (pv 1) (pa_cons (pe_callTy (tup_K (K := K) rfl) (by rfl) T.tuple_ (by decide +kernel) (pa_cons (pe_lc (own := [("k", 4)]) (g := gName 4) (by rfl) sc_best_plan.nd (pi_range1 (by rfl) T.range (pa_cons (pv 2) pa_nil)) (blkOk_by (own := [("k", 4)]) (N := ["ways", "switches", "trials", "columns", "k", "column"]) (sc := (defScope s_best_plan)) (by decide +kernel)) (fun _ _ _ _ _ => (pg_name (i := 4) sc_best_plan.nd rfl (Or.inr rfl))) (fun _ _ _ _ _ => pts_nil) (fun _ _ _ _ _ => (pe_joinK (K := K) rfl pe_str (pe_lc (own := [("column", 5)]) (g := gName 5) (by rfl) sc_best_plan.nd (pi_listK (K := K) rfl (pv 3)) (blkOk_by (own := [("column", 5)]) (N := ["ways", "switches", "trials", "columns", "k", "column"]) (sc := _) (by rfl)) (fun _ _ _ _ _ => (pg_name (i := 5) sc_best_plan.nd rfl (Or.inl rfl))) (fun _ _ _ _ _ => pts_nil) (fun _ _ _ _ _ => (pe_ix ix_str (pv 5) (pv 4) (fun _ _ => rfl))))))) pa_nil)) pa_nil)))))))), ?_⟩
  walk_at "go"
  by_cases hk1 : k = 1
  · subst hk1
    refine eT (by omega) ?_
    walk_at "go"
    intro o dx ho hdx hne
    refine ⟨o, emptyT K, dx, [], 1, rfl, upd_same, c.empt _, fun l hl => (by cases hl), Nat.le_refl _, by decide, by decide, fun H1 e1 => ⟨rfl, ?_⟩⟩
    have he : rowsOf ((List.range 1).map (colV x 1)) (fewest x 1) = [] := by rw [fewest_one]; rfl
    exact hq _ o (made_ext0 ho hdx e1) ⟨dx, emptyT K, upd_same, by rw [he]; exact c.empt _⟩
  · have hlim : k ≤ limit := Nat.le_trans hk (by decide)
    have hN := fewest_64 x hk
    refine eF (by omega) ?_
    walk_at "go"
    refine ⟨_, x, k, rfl, hW, fun H1 e1 => ?_⟩
    walk_at "go"
    intro D hD
    refine lc_pure walk_range (fun i => rowsV ((List.range i).map (colV x k))) hD rfl (fun _ _ => trivial) (fun i hi => ?_) ?_ ?_
    · unfold rowsV
      rw [List.length_map, List.length_map, List.length_range, sizeLine_eq]
      omega
    · rintro i v H2 H3 hi e2 ⟨rfl, rfl⟩ Ky K0 hy h0
      refine ⟨rfl, ?_⟩
      walk_at "go"
      refine ⟨a, x, k, i, by simp only [Int.zero_add], (e1.trans e2).wt hW, by omega, hlim, by omega, fun H4 e4 => ?_⟩
      refine hy _ _ e4 ?_
      rw [range_map_succ]
      unfold rowsV
      rw [List.map_append]
      have : colV x k i = col x (fewest x k) i := if_neg hk1
      rw [← this]; rfl
    · intro H2 e2 hD1
      rw [Int.toNat_natCast] at hD1
      generalize hcs : (List.range k).map (colV x k) = cs at hD1
      have hlen : cs.length = k := by rw [← hcs, List.length_map, List.length_range]
      have heach : ∀ c ∈ cs, c.length = fewest x k := by
        intro c hc
        rw [← hcs] at hc
        obtain ⟨j, hj, rfl⟩ := List.mem_map.mp hc
        exact colV_len hlim (List.mem_range.mp hj)
      have hL := sqL_of (K := K) hD1
      walk_at "go"
      intro D2 hD2
      refine lc_pure walk_range (fun i => rowsV (rowsOf cs i)) hD2 rfl (fun _ _ => trivial) (fun i hi => ?_) ?_ ?_
      · unfold rowsV
        rw [List.length_map, rowsOf_len, sizeLine_eq]
        omega
      · rintro i v H3 H4 hi e3 ⟨rfl, rfl⟩ Ky K0 hy h0
        have hL3 := e3.sqL hL
        refine ⟨rfl, ?_⟩
        walk_at "go"
        refine ⟨⟨_, hL3⟩, fun D3 hD3 => ?_⟩
        refine lc_pure walk_list (fun j => (cs.take j).map fun c => V.str (tx [c.getD i false])) hD3 rfl (fun _ e => e.sqL hL3) (fun j hj => ?_) ?_ ?_
        · rw [List.length_map, List.length_take, sizeLine_eq]
          omega
        · rintro j v H5 H6 hj e5 ⟨rfl, hv⟩ Ky5 K05 hy5 h05
          obtain ⟨cl, hcl, rfl⟩ := rowsV_at hv
          have hcl2 := heach cl (List.mem_of_getElem? hcl)
          have hil : i < cl.length := by rw [hcl2]; omega
          refine ⟨rfl, ?_⟩
          walk_at "go"
          refine ⟨_, _, sg cl[i], rfl, rfl, by rw [tx_len]; exact short (by omega), by rw [Int.zero_add]; exact at_tx hil, ?_⟩
          refine hy5 _ _ Ext.refl ?_
          rw [List.take_add_one, hcl, List.map_append]
          have : cl.getD i false = cl[i] := by rw [List.getD_eq_getElem?_getD, List.getElem?_eq_getElem hil]; rfl
          show _ = _ ++ [V.str (tx [cl[i]])]
          rw [← this]; rfl
        · intro H5 e5 hD5
          have hr5 : (rowsV cs).length = cs.length := List.length_map _
          rw [hr5, List.take_of_length_le (Nat.le_refl _)] at hD5
          walk_at "go"
          refine ⟨_, _, cs.map (fun c => tx [c.getD i false]), rfl, rfl, .inl ?_, ?_, ?_⟩
          · rw [List.map_map]
            exact sqL_of hD5
          · rw [sum_ones, List.length_map]
            show cs.length + cs.length * 0 ≤ _
            omega
          · rw [join_ones']
            exact hy _ _ e5 (rowsOf_succ cs i)
      · intro H3 e3 hD3
        rw [Int.toNat_natCast] at hD3
        refine ⟨_, _, rfl, .inl ⟨sqL_of hD3, fun l hl => ?_⟩⟩
        walk_at "go"
        intro o dx ho hdx hne
        have e4 : Ext H (upd H3 l (.tup (rowsV (rowsOf cs (fewest x k))))) := ((e1.trans e2).trans e3).trans (Ext.new hl)
        have hR : SqT K (upd H3 l (.tup (rowsV (rowsOf cs (fewest x k))))) l (rowsV (rowsOf cs (fewest x k))) := sqT_new
        generalize upd H3 l (.tup (rowsV (rowsOf cs (fewest x k)))) = H6 at ho hdx e4 hR ⊢
        refine ⟨o, l, dx, rowsOf cs (fewest x k), k, rfl, upd_same, (put_ext ho hdx hne).sqT hR, fun r hr => by rw [rowsOf_each r hr, hlen], h1, hk, by rw [rowsOf_len]; exact hN, fun H7 e7 => ⟨rfl, ?_⟩⟩
        have ho7 := e7 o _ upd_same
        refine hq _ o (e4.trans (made_ext0 ho hdx e7)) ⟨dx, l, upd_same, ?_⟩
        rw [hcs]
        exact sqT_put (e7.sqT ((put_ext ho hdx hne).sqT hR)) ho7
end
end FwW
end
section
set_option Elab.async false
set_option linter.all false
set_option maxRecDepth 100000
set_option maxHeartbeats 4000000
namespace FwW
open PySem PySem.Spec PyProof.Rows L2 FwR FwH Fw
local macro_rules | `(tactic| walk_at "go") => `(tactic| (repeat (first | refine ⟨_, rfl, ?_⟩ | refine ⟨_, _, rfl, rfl, ?_⟩ | refine ⟨_, _, rfl, lenTx (by assumption), ?_⟩ | refine ⟨_, _, rfl, ?_⟩ | refine ⟨_, _, _, rfl, ?_⟩ | refine ⟨Or.inl ⟨by omega, by omega⟩, ?_⟩ | refine ⟨Or.inr ⟨by omega, by omega⟩, ?_⟩ | refine ⟨⟨by omega, by omega⟩, ?_⟩ | refine ⟨(rfl : ("str" : String) = "str"), ?_⟩ | refine ⟨_, _, rfl, sqT_new, rfl, ?_⟩ | refine ⟨_, _, rfl, sqT_of (by assumption), rfl, ?_⟩ | refine ⟨⟨_, rfl⟩, ?_⟩ | refine And.intro scS ?_ | refine And.intro scI ?_ | refine And.intro (short (Nat.le_of_ble_eq_true rfl)) ?_ | refine ⟨_, _, rfl, .inr (by assumption), rfl, ws_flat _, ?_⟩ | refine ⟨_, _, rfl, lenT (by assumption), ?_⟩ | refine ⟨_, _, rfl, lenL (by assumption), ?_⟩ | refine ⟨_, _, _, _, _, rfl, by assumption, Tc.dcls (by assumption), Tc.dkept (by assumption), rfl, ?_⟩ | refine .inl ⟨_, rfl, ?_⟩ | refine .inr ⟨_, rfl, ?_⟩ | refine And.intro (by omega) ?_ | refine ⟨_, _, _, _, _, rfl, .ty _, .base (.int _), kit_ii, ?_⟩ | refine ⟨_, _, _, _, _, rfl, .ty _, .base (.int _), kit_ib, ?_⟩ | refine ⟨_, _, _, _, _, rfl, .ty _, .base (.str _), kit_ss, ?_⟩ | refine ⟨_, _, _, _, _, rfl, .ty _, .base (.bl _), kit_bb, ?_⟩ | refine ⟨_, _, _, _, _, rfl, .ty _, ty_t (by assumption), kit_tt, ?_⟩ | refine iteT ?_ | refine iteF ?_ | refine niT ?_ | refine nsT ?_ | refine nrT ?_ | refine nnF ?_ | refine iiF ?_ | refine isF ?_ | refine irF ?_ | refine nnT ?_ | refine eT (by omega) ?_ | refine eF (by omega) ?_ | refine nT (by omega) ?_ | refine nF (by omega) ?_ | refine dT (by omega) ?_ | refine dF (by omega) ?_)))
section
variable {P : Program} {w : World} {K : PySem.W.Frag} {mg : Str → Option Value} {base : Heap}
def spPBest (K : PySem.W.Frag) : Sp := fun vs H Q _ => ∃ (a : Addr) (x : Dm) (k : Nat), vs = [.ref (gP K), .ref a, .int k] ∧ IsD K H a x ∧ 1 ≤ k ∧ k ≤ 64 ∧ ∀ H' o, Ext H H' → IsP K H' o k (rowsOf ((List.range k).map (colV x k)) (fewest x k)) → Q (.ref o) H'
theorem sc_Plan_best : FnScope ["cls", "demand", "switches"] ["cls", "demand", "switches"] (defScope sPlan_best) := ⟨rfl, rfl, rfl, by decide +kernel, rfl, by decide +kernel, by decide +kernel⟩
theorem mv_Plan_best (T : Tx w K mg) (c : Tc K) (h : HereM K (FwK.recAd K "classmethod" (gP K) "best") "best" "Plan.best" sPlan_best []) (A_check_demand : Av P w K mg base "check_demand" 1 ["demand"] (spCheckDemand K)) (A_check_few_switches : Av P w K mg base "check_few_switches" 3 ["switches"] spCheckFew) (A_best_plan : Av P w K mg base "best_plan" 6 ["ways", "switches"] (spBestPlan K)) (M_Demand_ways : Mv P w K mg base (FwK.recAd K "property" (gD K) "ways") 1 ["self"] (spWays K)) : Mv P w K mg base (FwK.recAd K "classmethod" (gP K) "best") 7 ["cls", "demand", "switches"] (spPBest K) := by
  refine mv_mk h sc_Plan_best (fun _ _ _ _ _ _ us hl => match us, hl with | [_, _, _], _ => rfl) (fun vs H Q E hs => ?_) (fun cdv A outer s H vs Q E hr hs => ?_)
  · obtain ⟨a, x, k, rfl, _⟩ := hs
    rfl
  obtain ⟨a, x, k, rfl, hD, h1, hk, hq⟩ := hs
  refine ⟨_, (pss_cons (ps_expr (pe_callV (A_check_demand.mono (by decide)) hr (by rfl) (pa_cons (pv 1) pa_nil)))
    (pss_cons (ps_expr (pe_callV (A_check_few_switches.mono (by decide)) hr (by rfl) (pa_cons (pv 2) pa_nil)))
    (pss_one (ps_ret (pe_callV (A_best_plan.mono (by decide)) hr (by rfl) (pa_cons (pe_propV (K := K) rfl (pv 1) c.dcls c.dwp M_Demand_ways (hr.mono (by decide))) (pa_cons (pv 2) pa_nil))))))), ?_⟩
  walk_at "go"
  refine ⟨a, x, rfl, hD, ?_⟩
  walk_at "go"
  obtain ⟨dx, t, hd1, hd2⟩ := id hD
  refine ⟨_, _, _, rfl, hd1, ?_⟩
  refine ⟨a, x, rfl, hD, fun t2 ht2 => ?_⟩
  walk_at "go"
  exact ⟨t2, x, k, rfl, ht2, h1, hk, hq⟩
def colsV (k : Nat) (rows : List Bits) : List V := (List.range k).map fun i => V.str (tx (rows.map fun r => r.getD i false))
theorem colsV_succ (k : Nat) (rows : List Bits) : colsV (k + 1) rows = colsV k rows ++ [.str (tx (rows.map fun r => r.getD k false))] := by
  unfold colsV
  rw [range_map_succ]
def spPCols (K : PySem.W.Frag) : Sp := fun vs H Q _ => ∃ (a : Addr) (k : Nat) (rows : List Bits), vs = [.ref a] ∧ IsP K H a k rows ∧ k ≤ 64 ∧ rows.length ≤ 64 ∧ (∀ r ∈ rows, r.length = k) ∧ ∀ H' p, Ext H H' → SqT K H' p (colsV k rows) → Q (.ref p) H'
theorem sc_Plan_columns : FnScope ["self", "k", "trial"] ["self"] (defScope sPlan_columns) := ⟨rfl, rfl, rfl, by decide +kernel, rfl, by decide +kernel, by decide +kernel⟩
theorem mv_Plan_columns (T : Tx w K mg) (c : Tc K) (h : HereM K (FwK.recAd K "property" (gP K) "columns") "columns" "Plan.columns" sPlan_columns []) : Mv P w K mg base (FwK.recAd K "property" (gP K) "columns") 1 ["self"] (spPCols K) := by
  refine mv_mk h sc_Plan_columns (fun _ _ _ _ _ _ us hl => match us, hl with | [_], _ => rfl) (fun vs H Q E hs => ?_) (fun cdv A outer s H vs Q E hr hs => ?_)
  · obtain ⟨a, x, k, rfl, _⟩ := hs
    rfl
  obtain ⟨a, k, rows, rfl, ⟨dx, t, hd1, hd2⟩, hk, hn, hl, hq⟩ := hs
  refine ⟨_, (pss_one (ps_ret (pe_callTy (tup_K (K := K) rfl) (by rfl) T.tuple_ (by decide +kernel) (pa_cons (pe_lc (own := [("k", 1)]) (g := gName 1) (by rfl) sc_Plan_columns.nd (pi_range1 (by rfl) T.range (pa_cons (pe_fldK (K := K) rfl (pv 0) rfl) pa_nil)) (blkOk_by (own := [("k", 1)]) (N := ["self", "k", "trial"]) (sc := (defScope sPlan_columns)) (by decide +kernel)) (fun _ _ _ _ _ => (pg_name (i := 1) sc_Plan_columns.nd rfl (Or.inr rfl))) (fun _ _ _ _ _ => pts_nil) (fun _ _ _ _ _ => (pe_joinK (K := K) rfl pe_str (pe_lc (own := [("trial", 2)]) (g := gName 2) (by rfl) sc_Plan_columns.nd (pi_tupK (K := K) rfl (pe_fldK (K := K) rfl (pv 0) rfl)) (blkOk_by (own := [("trial", 2)]) (N := ["self", "k", "trial"]) (sc := _) (by rfl)) (fun _ _ _ _ _ => (pg_name (i := 2) sc_Plan_columns.nd rfl (Or.inl rfl))) (fun _ _ _ _ _ => pts_nil) (fun _ _ _ _ _ => (pe_ix ix_str (pv 2) (pv 1) (fun _ _ => rfl))))))) pa_nil)))), ?_⟩
  walk_at "go"
  refine ⟨_, _, _, _, _, rfl, hd1, c.pcls, c.pmany, rfl, ?_⟩
  walk_at "go"
  intro D2 hD2
  refine lc_pure walk_range (fun i => colsV i rows) hD2 rfl (fun _ _ => trivial) (fun i hi => ?_) ?_ ?_
  · unfold colsV
    rw [List.length_map, List.length_range, sizeLine_eq]
    omega
  · rintro i v H3 H4 hi e3 ⟨rfl, rfl⟩ Ky K0 hy h0
    have hd3 := e3 _ _ hd1
    have hR3 := e3.sqT hd2
    refine ⟨rfl, ?_⟩
    walk_at "go"
    refine ⟨_, _, _, _, _, rfl, hd3, c.pcls, c.prows, rfl, ?_⟩
    walk_at "go"
    refine ⟨⟨_, hR3⟩, fun D3 hD3 => ?_⟩
    refine lc_pure walk_tup (fun j => (rows.take j).map fun c => V.str (tx [c.getD i false])) hD3 rfl (fun _ e => e.sqT hR3) (fun j hj => ?_) ?_ ?_
    · rw [List.length_map, List.length_take, sizeLine_eq]
      omega
    · rintro j v H5 H6 hj e5 ⟨rfl, hv⟩ Ky5 K05 hy5 h05
      obtain ⟨cl, hcl, rfl⟩ := rowsV_at hv
      have hcl2 := hl cl (List.mem_of_getElem? hcl)
      have hil : i < cl.length := by rw [hcl2]; omega
      refine ⟨rfl, ?_⟩
      walk_at "go"
      refine ⟨_, _, sg cl[i], rfl, rfl, by rw [tx_len]; exact short (by omega), by rw [Int.zero_add]; exact at_tx hil, ?_⟩
      refine hy5 _ _ Ext.refl ?_
      rw [List.take_add_one, hcl, List.map_append]
      have : cl.getD i false = cl[i] := by rw [List.getD_eq_getElem?_getD, List.getElem?_eq_getElem hil]; rfl
      show _ = _ ++ [V.str (tx [cl[i]])]
      rw [← this]; rfl
    · intro H5 e5 hD5
      have hr5 : (rowsV rows).length = rows.length := List.length_map _
      rw [show (rows.map fun l => V.str (tx l)).length = rows.length from List.length_map _, List.take_of_length_le (Nat.le_refl _)] at hD5
      walk_at "go"
      refine ⟨_, _, rows.map (fun c => tx [c.getD i false]), rfl, rfl, .inl ?_, ?_, ?_⟩
      · rw [List.map_map]
        exact sqL_of hD5
      · rw [sum_ones, List.length_map]
        show rows.length + rows.length * 0 ≤ _
        omega
      · rw [join_ones']
        exact hy _ _ e5 (colsV_succ i rows)
  · intro H3 e3 hD3
    rw [Int.toNat_natCast] at hD3
    refine ⟨_, _, rfl, .inl ⟨sqL_of hD3, fun l hl => ?_⟩⟩
    exact hq _ l (e3.trans (Ext.new hl)) sqT_new
def spCertF (K : PySem.W.Frag) : Sp := fun vs H Q _ => ∃ (a : Addr) (x : Dm) (k : Nat), vs = [.ref a, .int k] ∧ IsD K H a x ∧ 1 ≤ k ∧ k ≤ limit ∧
  ∀ H' p q, Ext H H' → SqT K H' p [.ref q, .non] → SqT K H' q [.str "fewest", .str (lineS x), .int k, .int (fewest x k : Nat)] → Q (.ref p) H'
theorem sc_certify_fewest : FnScope ["demand", "switches"] ["demand", "switches"] (defScope s_certify_fewest) := ⟨rfl, rfl, rfl, by decide +kernel, rfl, by decide +kernel, by decide +kernel⟩
theorem av_certify_fewest (T : Tx w K mg) (c : Tc K) (h : Here K mg "certify_fewest" "certify_fewest" s_certify_fewest) (A_check_demand : Av P w K mg base "check_demand" 1 ["demand"] (spCheckDemand K)) (M_Demand_fewest : Mv P w K mg base (He.ma K (gD K) "fewest") 4 ["self", "switches"] (spDFewest K)) (M_Demand_str : Mv P w K mg base (He.ma K (gD K) "__str__") 1 ["self"] (spDStr K)) : Av2 P w K mg base "certify_fewest" 5 ["demand", "switches"] ["switches", "demand"] (spCertF K) := by
  refine av2_mk h sc_certify_fewest (fun _ _ _ _ _ _ us hl => match us, hl with | [_, _], _ => rfl) (fun _ _ _ _ _ _ us hl => match us, hl with | [_, _], _ => rfl) (fun vs H Q E hs => ?_) (fun f cdv A outer s H vs Q E hr hs => ?_)
  · obtain ⟨a, x, k, rfl, _⟩ := hs
    rfl
  obtain ⟨a, x, k, rfl, hD, h1, hk, hq⟩ := hs
  refine ⟨_, (pss_cons (ps_expr (pe_callV (A_check_demand.mono (by decide)) hr (by rfl) (pa_cons (pv 0) pa_nil)))
    (pss_one (ps_ret (pe_tup (pa_cons (pe_tup (pa_cons pe_str (pa_cons (pe_callTy (cr_strV (K := K) rfl c.dcls c.dstr M_Demand_str (hr.mono (by decide))) (by rfl) T.str_ (by decide +kernel) (pa_cons (pv 0) pa_nil)) (pa_cons (pv 1) (pa_cons (pe_methV (K := K) rfl (pv 0) c.dcls c.dfew (M_Demand_fewest.mono (by decide)) hr (pa_cons (pv 1) pa_nil)) pa_nil))))) (pa_cons pe_non pa_nil)))))), ?_⟩
  walk_at "go"
  refine ⟨a, x, rfl, hD, ?_⟩
  walk_at "go"
  obtain ⟨dx, t, hd1, hd2⟩ := id hD
  refine ⟨_, _, _, rfl, hd1, ?_⟩
  refine ⟨a, x, rfl, hD, fun H1 e1 => ⟨_, rfl, ?_⟩⟩
  walk_at "go"
  refine ⟨_, _, _, rfl, e1 _ _ hd1, rfl, ?_⟩
  walk_at "go"
  refine ⟨a, x, k, rfl, e1.isD hD, h1, hk, fun H2 e2 => ?_⟩
  walk_at "go"
  intro q hq1
  walk_at "go"
  intro p hp1
  exact hq _ p q (((e1.trans e2).trans (Ext.new hq1)).trans (Ext.new hp1)) sqT_new ((Ext.new hp1).sqT sqT_new)
def spCertC (K : PySem.W.Frag) : Sp := fun vs H Q _ => ∃ (a : Addr) (x : Dm) (k i : Nat), vs = [.ref a, .int k, .int i] ∧ IsD K H a x ∧ 1 ≤ k ∧ k ≤ limit ∧ i < k ∧
  ∀ H' p q, Ext H H' → SqT K H' p [.ref q, .non] → SqT K H' q [.str "column", .str (lineS x), .int k, .int i, .str (tx (colV x k i))] → Q (.ref p) H'
theorem sc_certify_column : FnScope ["demand", "switches", "index"] ["demand", "switches", "index"] (defScope s_certify_column) := ⟨rfl, rfl, rfl, by decide +kernel, rfl, by decide +kernel, by decide +kernel⟩
theorem av_certify_column (T : Tx w K mg) (c : Tc K) (h : Here K mg "certify_column" "certify_column" s_certify_column) (A_check_demand : Av P w K mg base "check_demand" 1 ["demand"] (spCheckDemand K)) (M_Demand_column : Mv P w K mg base (He.ma K (gD K) "column") 5 ["self", "switches", "index"] (spDColumn K)) (M_Demand_str : Mv P w K mg base (He.ma K (gD K) "__str__") 1 ["self"] (spDStr K)) : Av2 P w K mg base "certify_column" 6 ["demand", "switches", "index"] ["index", "switches", "demand"] (spCertC K) := by
  refine av2_mk h sc_certify_column (fun _ _ _ _ _ _ us hl => match us, hl with | [_, _, _], _ => rfl) (fun _ _ _ _ _ _ us hl => match us, hl with | [_, _, _], _ => rfl) (fun vs H Q E hs => ?_) (fun f cdv A outer s H vs Q E hr hs => ?_)
  · obtain ⟨a, x, k, i, rfl, _⟩ := hs
    rfl
  obtain ⟨a, x, k, i, rfl, hD, h1, hk, hi, hq⟩ := hs
  refine ⟨_, (pss_cons (ps_expr (pe_callV (A_check_demand.mono (by decide)) hr (by rfl) (pa_cons (pv 0) pa_nil)))
    (pss_one (ps_ret (pe_tup (pa_cons (pe_tup (pa_cons pe_str (pa_cons (pe_callTy (cr_strV (K := K) rfl c.dcls c.dstr M_Demand_str (hr.mono (by decide))) (by rfl) T.str_ (by decide +kernel) (pa_cons (pv 0) pa_nil)) (pa_cons (pv 1) (pa_cons (pv 2) (pa_cons (pe_methV (K := K) rfl (pv 0) c.dcls c.dcol (M_Demand_column.mono (by decide)) hr (pa_cons (pv 1) (pa_cons (pv 2) pa_nil))) pa_nil)))))) (pa_cons pe_non pa_nil)))))), ?_⟩
  walk_at "go"
  refine ⟨a, x, rfl, hD, ?_⟩
  walk_at "go"
  obtain ⟨dx, t, hd1, hd2⟩ := id hD
  refine ⟨_, _, _, rfl, hd1, ?_⟩
  refine ⟨a, x, rfl, hD, fun H1 e1 => ⟨_, rfl, ?_⟩⟩
  walk_at "go"
  refine ⟨_, _, _, rfl, e1 _ _ hd1, rfl, ?_⟩
  walk_at "go"
  refine ⟨a, x, k, i, rfl, e1.isD hD, h1, hk, hi, fun H2 e2 => ?_⟩
  walk_at "go"
  intro q hq1
  walk_at "go"
  intro p hp1
  exact hq _ p q (((e1.trans e2).trans (Ext.new hq1)).trans (Ext.new hp1)) sqT_new ((Ext.new hp1).sqT sqT_new)
end
end FwW
end
section
set_option Elab.async false
set_option linter.all false
set_option maxRecDepth 100000
set_option maxHeartbeats 1000000
namespace FwW
open PySem PySem.Spec PyProof.Rows L2 FwR FwH Fw
local macro_rules | `(tactic| walk_at "go") => `(tactic| (repeat (first | refine ⟨_, rfl, ?_⟩ | refine ⟨_, _, rfl, rfl, ?_⟩ | refine ⟨_, _, rfl, lenTx (by assumption), ?_⟩ | refine ⟨_, _, rfl, ?_⟩ | refine ⟨_, _, _, rfl, ?_⟩ | refine ⟨Or.inl ⟨by omega, by omega⟩, ?_⟩ | refine ⟨Or.inr ⟨by omega, by omega⟩, ?_⟩ | refine ⟨⟨by omega, by omega⟩, ?_⟩ | refine ⟨(rfl : ("str" : String) = "str"), ?_⟩ | refine ⟨_, _, rfl, sqT_new, rfl, ?_⟩ | refine ⟨_, _, rfl, sqT_of (by assumption), rfl, ?_⟩ | refine ⟨⟨_, rfl⟩, ?_⟩ | refine And.intro scS ?_ | refine And.intro scI ?_ | refine And.intro (short (Nat.le_of_ble_eq_true rfl)) ?_ | refine ⟨_, _, rfl, .inr (by assumption), rfl, ws_flat _, ?_⟩ | refine ⟨_, _, rfl, lenT (by assumption), ?_⟩ | refine ⟨_, _, rfl, lenL (by assumption), ?_⟩ | refine ⟨_, _, _, _, _, rfl, by assumption, Tc.dcls (by assumption), Tc.dkept (by assumption), rfl, ?_⟩ | refine .inl ⟨_, rfl, ?_⟩ | refine .inr ⟨_, rfl, ?_⟩ | refine And.intro (by omega) ?_ | refine ⟨_, _, _, _, _, rfl, .ty _, .base (.int _), kit_ii, ?_⟩ | refine ⟨_, _, _, _, _, rfl, .ty _, .base (.int _), kit_ib, ?_⟩ | refine ⟨_, _, _, _, _, rfl, .ty _, .base (.str _), kit_ss, ?_⟩ | refine ⟨_, _, _, _, _, rfl, .ty _, .base (.bl _), kit_bb, ?_⟩ | refine ⟨_, _, _, _, _, rfl, .ty _, ty_t (by assumption), kit_tt, ?_⟩ | refine iteT ?_ | refine iteF ?_ | refine niT ?_ | refine nsT ?_ | refine nrT ?_ | refine nnF ?_ | refine iiF ?_ | refine isF ?_ | refine irF ?_ | refine nnT ?_ | refine eT (by omega) ?_ | refine eF (by omega) ?_ | refine nT (by omega) ?_ | refine nF (by omega) ?_ | refine dT (by omega) ?_ | refine dF (by omega) ?_)))
section
variable {P : Program} {w : World} {K : PySem.W.Frag} {mg : Str → Option Value} {base : Heap}
/-- all but p is as it was -/
def Exp (p : Addr) (H H' : Hp) : Prop := ∀ a o, a ≠ p → H a = some o → H' a = some o
theorem Exp.refl {p : Addr} {H : Hp} : Exp p H H := fun _ _ _ h => h
theorem Exp.trans {p : Addr} {H H1 H2 : Hp} (e : Exp p H H1) (f : Exp p H1 H2) : Exp p H H2 := fun a o n h => f a o n (e a o n h)
theorem Ext.exp {p : Addr} {H H' : Hp} (e : Ext H H') : Exp p H H' := fun a o _ h => e a o h
theorem Exp.put {p : Addr} {H : Hp} {o : HO} : Exp p H (upd H p o) := fun a u n h => by rw [upd_ne n]; exact h
/-- the law's purse: two numbers, none below nought -/
def Pu (H : Hp) (p : Addr) : Prop := ∃ c s : Int, H p = some (.lst [.int c, .int s]) ∧ 0 ≤ c ∧ 0 ≤ s ∧ s < 2305843009213693951
theorem Ext.pu {H H' : Hp} {p : Addr} (e : Ext H H') (h : Pu H p) : Pu H' p := by
  obtain ⟨c, s, h1, h2⟩ := h
  exact ⟨c, s, e _ _ h1, h2⟩
def spPurse (K : PySem.W.Frag) : Sp := fun vs H Q _ => ∃ (a : Addr) (ns : List Int) (k : Nat), vs = [.ref a, .int k] ∧ SqL K H a (ns.map V.int) ∧ ns.length ≤ sizeLine ∧ k ≤ 1000 ∧ ∀ H' p, Ext H H' → H p = none → Pu H' p → Q (.ref p) H'
theorem ints_at {ns : List Int} {i : Nat} {v : V} (h : (ns.map V.int)[i]? = some v) : ∃ n, v = .int n := by
  rw [List.getElem?_map] at h
  obtain ⟨n, _, rfl⟩ := Option.map_eq_some_iff.mp h
  exact ⟨n, rfl⟩
theorem all_ints {xs : List V} (h : ∀ v ∈ xs, ∃ n, v = V.int n) {i : Nat} {v : V} (hv : xs[i]? = some v) : ∃ n, v = V.int n := h v (List.mem_of_getElem? hv)
theorem sc_law_purse : FnScope ["_law_script", "_law_k", "_law_cell", "_law_state", "_law_one"] ["_law_script", "_law_k"] (defScope s_law_purse) := ⟨rfl, rfl, rfl, by decide +kernel, rfl, by decide +kernel, by decide +kernel⟩
theorem av_law_purse (T : Tx w K mg) (c : Tc K) (h : Here K mg "_law_purse" "_law_purse" s_law_purse) : Av P w K mg base "_law_purse" 1 ["_law_script", "_law_k"] (spPurse K) := by
  refine av_mk h sc_law_purse (fun _ _ _ _ _ _ us hl => match us, hl with | [_, _], _ => rfl) (fun vs H Q E hs => ?_) (fun f cdv A outer s H vs Q E hr hs => ?_)
  · obtain ⟨a, ns, k, rfl, _⟩ := hs
    rfl
  obtain ⟨a, ns, k, rfl, hL, hn, hk, hq⟩ := hs
  refine ⟨_, (pss_cons (ps_set (i := 2) sc_law_purse.nd rfl (Or.inl rfl) (pe_ifExp (pt_cmpR op_lt (pv 1) (pe_callB (call_lenK (K := K) rfl) (by rfl) T.len PySem.boot_len (pa_cons (pv 0) pa_nil)) (nomark _)) (pe_callTy call_int1 (by rfl) T.int_ (by decide +kernel) (pa_cons (pe_ix (ix_listK (K := K) rfl) (pv 0) (pv 1) (fun _ _ => rfl)) pa_nil)) (pe_op op_add (pe_op op_mul (pe_op op_mul pe_int (pv 1)) (pv 1)) pe_int)))
    (pss_cons (ps_set (i := 3) sc_law_purse.nd rfl (Or.inl rfl) (pe_op op_add pe_int (pe_op op_mul pe_int (pv 1))))
    (pss_cons (ps_for PassesOwn.never rfl (pi_listK (K := K) rfl (pe_op op_cat (pe_slice (sl_listK (K := K) rfl) (pv 0) po_none (po_some pe_int)) (pe_lst (pa_cons (pv 2) pa_nil)))) (pg_name (i := 4) sc_law_purse.nd rfl (Or.inl rfl))
    (pss_cons (ps_set (i := 3) sc_law_purse.nd rfl (Or.inl rfl) (pe_op op_add (pe_op op_add (pe_op op_mul (pv 3) pe_int) (pe_op op_mod (pe_callTy call_int1 (by rfl) T.int_ (by decide +kernel) (pa_cons (pv 4) pa_nil)) pe_int)) (pe_callTy call_int1 (by rfl) T.int_ (by decide +kernel) (pa_cons (pe_cmpR op_lt (pv 4) pe_int (nomark _)) pa_nil))))
    (pss_one (ps_set (i := 3) sc_law_purse.nd rfl (Or.inl rfl) (pe_op op_mod (pe_callTy call_int1 (by rfl) T.int_ (by decide +kernel) (pa_cons (pv 3) pa_nil)) pe_int)))))
    (pss_one (ps_ret (pe_lst (pa_cons (pe_ifExp (pt_cmpR op_ge (pe_callB call_abs (by rfl) T.abs (by decide +kernel) (pa_cons (pv 2) pa_nil)) (pe_op op_pow pe_int pe_int) (nomark _)) (pe_callB call_abs (by rfl) T.abs (by decide +kernel) (pa_cons (pv 2) pa_nil)) pe_int) (pa_cons (pv 3) pa_nil)))))))), ?_⟩
  walk_at "go"
  have hlen : (ns.map V.int).length = ns.length := List.length_map _
  rw [hlen]
  refine d2 (fun h1 => ?_) (fun h1 => ?_)
  · walk_at "go"
    obtain ⟨cell0, hcell0⟩ : ∃ cell0, ns[k]? = some cell0 := ⟨ns[k]'(by omega), List.getElem?_eq_getElem (by omega)⟩
    refine ⟨_, _, _, .int cell0, rfl, rfl, hL, by rw [at_nat (by rw [hlen]; omega), List.getElem?_map, hcell0]; rfl, ?_⟩
    walk_at "go"
    refine ⟨_, _, rfl, hL, fun l1 hl1 => ?_⟩
    walk_at "go"
    intro l2 hl2
    walk_at "go"
    refine ⟨l1, l2, _, _, rfl, rfl, (Ext.new hl2) _ _ upd_same, upd_same, ?_, fun l3 hl3 => ?_⟩
    · have := cutV_length (ns.map V.int) none (some 5)
      have h5 : (cutV (ns.map V.int) none (some 5)).length ≤ 5 := by
        show (((ns.map V.int).drop (HT.sIx _ 0 none)).take (HT.sIx _ _ (some ((5 : Nat) : Int)) - HT.sIx _ 0 none)).length ≤ 5
        rw [HT.sIx_none, HT.sIx_nat, List.length_take]
        omega
      show _ + 1 ≤ _
      exact short (by omega)
    have hall : ∀ v ∈ cutV (ns.map V.int) none (some 5) ++ [V.int (cell0)], ∃ n, v = V.int n := by
      intro v hv
      rcases List.mem_append.mp hv with h | h
      · obtain ⟨n, _, rfl⟩ := List.mem_map.mp (List.mem_of_mem_drop (List.mem_of_mem_take h))
        exact ⟨n, rfl⟩
      · exact ⟨_, List.mem_singleton.mp h⟩
    have e3 := ((Ext.new (H := H) hl1).trans (Ext.new (o := .lst [V.int (cell0)]) hl2)).trans (Ext.new (o := .lst (cutV (ns.map V.int) none (some 5) ++ [V.int (cell0)])) hl3)
    have hL3 := sqL_of (K := K) (upd_same (H := upd (upd H l1 (.lst (cutV (ns.map V.int) none (some 5)))) l2 (.lst [V.int (cell0)])) (a := l3) (o := .lst (cutV (ns.map V.int) none (some 5) ++ [V.int (cell0)])))
    try dsimp (config := { proj := false, zeta := false }) only
    generalize hcell : (cell0 : Int) = cell at hall e3 hL3 ⊢
    generalize cutV (ns.map V.int) none (some 5) ++ [V.int cell] = xs at hall e3 hL3 ⊢
    generalize upd (upd (upd H l1 (.lst (cutV (ns.map V.int) none (some 5)))) l2 (.lst [V.int cell])) l3 (.lst xs) = H3 at e3 hL3 ⊢
    walk_at "go"
    try refine ⟨⟨_, hL3⟩, ?_⟩
    refine for_it walk_list (fun i σ H' => H' = H3 ∧ ∃ (s : Int) (o : Option V), 0 ≤ s ∧ s < 2305843009213693951 ∧ σ = [some (.ref a), some (.int k), some (.int cell), some (.int s), o]) ⟨rfl, 700001 + 5003 * (k : Int), _, by omega, by omega, rfl⟩ (fun i σ H' _ h => by rw [h.1]; exact hL3) ?_ ?_
    · rintro i v σ H1 H2 hi ⟨rfl, s1, o, hs0, hs1, rfl⟩ ⟨rfl, hv⟩
      obtain ⟨n, rfl⟩ := all_ints hall hv
      walk_at "go"
      exact ⟨rfl, _, _, Int.emod_nonneg _ (by decide), Int.emod_lt_of_pos _ (by decide), rfl⟩
    · rintro σ H1 ⟨rfl, s1, o, hs0, hs1, rfl⟩
      have habs : 0 ≤ (if cell < 0 then -cell else cell) := by split <;> omega
      walk_at "go"
      refine d2 (fun h18 => ?_) (fun h18 => ?_)
      · walk_at "go"
        intro p hp
        exact hq _ p (e3.trans (Ext.new hp)) (e3.none hp) ⟨_, _, upd_same, habs, hs0, hs1⟩
      · walk_at "go"
        intro p hp
        exact hq _ p (e3.trans (Ext.new hp)) (e3.none hp) ⟨_, _, upd_same, Int.le_refl _, hs0, hs1⟩
  · walk_at "go"
    refine ⟨_, _, rfl, hL, fun l1 hl1 => ?_⟩
    walk_at "go"
    intro l2 hl2
    walk_at "go"
    refine ⟨l1, l2, _, _, rfl, rfl, (Ext.new hl2) _ _ upd_same, upd_same, ?_, fun l3 hl3 => ?_⟩
    · have := cutV_length (ns.map V.int) none (some 5)
      have h5 : (cutV (ns.map V.int) none (some 5)).length ≤ 5 := by
        show (((ns.map V.int).drop (HT.sIx _ 0 none)).take (HT.sIx _ _ (some ((5 : Nat) : Int)) - HT.sIx _ 0 none)).length ≤ 5
        rw [HT.sIx_none, HT.sIx_nat, List.length_take]
        omega
      show _ + 1 ≤ _
      exact short (by omega)
    have hall : ∀ v ∈ cutV (ns.map V.int) none (some 5) ++ [V.int (41077 * (k : Int) * (k : Int) + 2903)], ∃ n, v = V.int n := by
      intro v hv
      rcases List.mem_append.mp hv with h | h
      · obtain ⟨n, _, rfl⟩ := List.mem_map.mp (List.mem_of_mem_drop (List.mem_of_mem_take h))
        exact ⟨n, rfl⟩
      · exact ⟨_, List.mem_singleton.mp h⟩
    have e3 := ((Ext.new (H := H) hl1).trans (Ext.new (o := .lst [V.int (41077 * (k : Int) * (k : Int) + 2903)]) hl2)).trans (Ext.new (o := .lst (cutV (ns.map V.int) none (some 5) ++ [V.int (41077 * (k : Int) * (k : Int) + 2903)])) hl3)
    have hL3 := sqL_of (K := K) (upd_same (H := upd (upd H l1 (.lst (cutV (ns.map V.int) none (some 5)))) l2 (.lst [V.int (41077 * (k : Int) * (k : Int) + 2903)])) (a := l3) (o := .lst (cutV (ns.map V.int) none (some 5) ++ [V.int (41077 * (k : Int) * (k : Int) + 2903)])))
    try dsimp (config := { proj := false, zeta := false }) only
    generalize hcell : (41077 * (k : Int) * (k : Int) + 2903 : Int) = cell at hall e3 hL3 ⊢
    generalize cutV (ns.map V.int) none (some 5) ++ [V.int cell] = xs at hall e3 hL3 ⊢
    generalize upd (upd (upd H l1 (.lst (cutV (ns.map V.int) none (some 5)))) l2 (.lst [V.int cell])) l3 (.lst xs) = H3 at e3 hL3 ⊢
    walk_at "go"
    try refine ⟨⟨_, hL3⟩, ?_⟩
    refine for_it walk_list (fun i σ H' => H' = H3 ∧ ∃ (s : Int) (o : Option V), 0 ≤ s ∧ s < 2305843009213693951 ∧ σ = [some (.ref a), some (.int k), some (.int cell), some (.int s), o]) ⟨rfl, 700001 + 5003 * (k : Int), _, by omega, by omega, rfl⟩ (fun i σ H' _ h => by rw [h.1]; exact hL3) ?_ ?_
    · rintro i v σ H1 H2 hi ⟨rfl, s1, o, hs0, hs1, rfl⟩ ⟨rfl, hv⟩
      obtain ⟨n, rfl⟩ := all_ints hall hv
      walk_at "go"
      exact ⟨rfl, _, _, Int.emod_nonneg _ (by decide), Int.emod_lt_of_pos _ (by decide), rfl⟩
    · rintro σ H1 ⟨rfl, s1, o, hs0, hs1, rfl⟩
      have habs : 0 ≤ (if cell < 0 then -cell else cell) := by split <;> omega
      walk_at "go"
      refine d2 (fun h18 => ?_) (fun h18 => ?_)
      · walk_at "go"
        intro p hp
        exact hq _ p (e3.trans (Ext.new hp)) (e3.none hp) ⟨_, _, upd_same, habs, hs0, hs1⟩
      · walk_at "go"
        intro p hp
        exact hq _ p (e3.trans (Ext.new hp)) (e3.none hp) ⟨_, _, upd_same, Int.le_refl _, hs0, hs1⟩
def spTake : Sp := fun vs H Q _ => ∃ (p : Addr) (m : Int), vs = [.ref p, .int m] ∧ Pu H p ∧ 1 ≤ m ∧ m ≤ 1000000000 ∧ ∀ H' d, Exp p H H' → Pu H' p → 0 ≤ d → d < m → Q (.int d) H'
theorem sc_law_take : FnScope ["_law_purse_here", "_law_many", "_law_digit"] ["_law_purse_here", "_law_many"] (defScope s_law_take) := ⟨rfl, rfl, rfl, by decide +kernel, rfl, by decide +kernel, by decide +kernel⟩
theorem av_law_take (T : Tx w K mg) (c : Tc K) (h : Here K mg "_law_take" "_law_take" s_law_take) : Av P w K mg base "_law_take" 1 ["_law_purse_here", "_law_many"] spTake := by
  refine av_mk h sc_law_take (fun _ _ _ _ _ _ us hl => match us, hl with | [_, _], _ => rfl) (fun vs H Q E hs => ?_) (fun f cdv A outer s H vs Q E hr hs => ?_)
  · obtain ⟨p, m, rfl, _⟩ := hs
    rfl
  obtain ⟨p, m, rfl, ⟨c0, s0, hp, h0, h1, h2⟩, hm1, hm2, hq⟩ := hs
  refine ⟨_, (pss_cons (ps_if (pt_cmpR op_gt (pe_ix (ix_listK (K := K) rfl) (pv 0) pe_int (fun _ _ => rfl)) pe_int (nomark _)) (pss_cons (ps_set (i := 2) sc_law_take.nd rfl (Or.inl rfl) (pe_op op_mod (pe_callTy call_int1 (by rfl) T.int_ (by decide +kernel) (pa_cons (pe_ix (ix_listK (K := K) rfl) (pv 0) pe_int (fun _ _ => rfl)) pa_nil)) (pv 1)))
    (pss_cons (ps_asg (pe_op op_fdiv (pe_ix (ix_listK (K := K) rfl) (pv 0) pe_int (fun _ _ => rfl)) (pv 1)) (pg_sub (pv 0) pe_int set_list))
    (pss_one (ps_ret (pv 2))))) pss_nil)
    (pss_cons (ps_asg (pe_op op_mod (pe_callTy call_int1 (by rfl) T.int_ (by decide +kernel) (pa_cons (pe_op op_add (pe_op op_mul (pe_ix (ix_listK (K := K) rfl) (pv 0) pe_int (fun _ _ => rfl)) pe_int) pe_int) pa_nil)) pe_int) (pg_sub (pv 0) pe_int set_list))
    (pss_one (ps_ret (pe_op op_mod (pe_callTy call_int1 (by rfl) T.int_ (by decide +kernel) (pa_cons (pe_op op_add (pe_op op_fdiv (pe_ix (ix_listK (K := K) rfl) (pv 0) pe_int (fun _ _ => rfl)) pe_int) (pe_op op_fdiv (pe_ix (ix_listK (K := K) rfl) (pv 0) pe_int (fun _ _ => rfl)) pe_int)) pa_nil)) (pv 1)))))), ?_⟩
  walk_at "go"
  refine ⟨_, _, _, _, rfl, rfl, sqL_of hp, rfl, ?_⟩
  walk_at "go"
  refine d2 (fun hc => ?_) (fun hc => ?_)
  · walk_at "go"
    refine ⟨_, _, _, _, rfl, rfl, sqL_of hp, rfl, ?_⟩
    walk_at "go"
    refine ⟨_, _, _, _, rfl, rfl, sqL_of hp, rfl, ?_⟩
    walk_at "go"
    refine ⟨_, _, _, 0, rfl, rfl, hp, rfl, ?_⟩
    walk_at "go"
    refine hq _ _ Exp.put ⟨_, _, upd_same, Int.ediv_nonneg h0 (by omega), h1, h2⟩ (Int.emod_nonneg _ (by omega)) (Int.emod_lt_of_pos _ (by omega))
  · walk_at "go"
    refine ⟨_, _, _, _, rfl, rfl, sqL_of hp, rfl, ?_⟩
    walk_at "go"
    refine ⟨_, _, _, 1, rfl, rfl, hp, rfl, ?_⟩
    walk_at "go"
    refine ⟨_, _, _, _, rfl, rfl, sqL_of upd_same, rfl, ?_⟩
    walk_at "go"
    refine ⟨_, _, _, _, rfl, rfl, sqL_of upd_same, rfl, ?_⟩
    walk_at "go"
    refine hq _ _ Exp.put ⟨_, _, upd_same, h0, Int.emod_nonneg _ (by decide), Int.emod_lt_of_pos _ (by decide)⟩ (Int.emod_nonneg _ (by omega)) (Int.emod_lt_of_pos _ (by omega))
def spBig : Sp := fun vs H Q _ => ∃ (p : Addr) (m : Int), vs = [.ref p, .int m] ∧ Pu H p ∧ 1 ≤ m ∧ ∀ H' d, Exp p H H' → Pu H' p → 0 ≤ d → d < m → Q (.int d) H'
theorem sc_law_big : FnScope ["_law_purse_here", "_law_many", "_law_found", "_law_turn"] ["_law_purse_here", "_law_many"] (defScope s_law_big) := ⟨rfl, rfl, rfl, by decide +kernel, rfl, by decide +kernel, by decide +kernel⟩
theorem av_law_big (T : Tx w K mg) (c : Tc K) (h : Here K mg "_law_big" "_law_big" s_law_big) (A_law_take : Av P w K mg base "_law_take" 1 ["_law_purse_here", "_law_many"] spTake) : Av P w K mg base "_law_big" 2 ["_law_purse_here", "_law_many"] spBig := by
  refine av_mk h sc_law_big (fun _ _ _ _ _ _ us hl => match us, hl with | [_, _], _ => rfl) (fun vs H Q E hs => ?_) (fun f cdv A outer s H vs Q E hr hs => ?_)
  · obtain ⟨p, m, rfl, _⟩ := hs
    rfl
  obtain ⟨p, m, rfl, hp, hm1, hq⟩ := hs
  refine ⟨_, (pss_cons (ps_set (i := 2) sc_law_big.nd rfl (Or.inl rfl) pe_int)
    (pss_cons (ps_for PassesOwn.never rfl (pi_range1 (by rfl) T.range (pa_cons pe_int pa_nil)) (pg_name (i := 3) sc_law_big.nd rfl (Or.inl rfl))
    (pss_one (ps_set (i := 2) sc_law_big.nd rfl (Or.inl rfl) (pe_op op_add (pe_op op_mul (pv 2) (pe_op op_pow pe_int pe_int)) (pe_callV (A_law_take.mono (by decide)) hr (by rfl) (pa_cons (pv 0) (pa_cons (pe_op op_pow pe_int pe_int) pa_nil)))))))
    (pss_one (ps_ret (pe_op op_mod (pe_callTy call_int1 (by rfl) T.int_ (by decide +kernel) (pa_cons (pv 2) pa_nil)) (pv 1)))))), ?_⟩
  walk_at "go"
  refine for_range (n := 5) (fun i σ H' => Exp p H H' ∧ Pu H' p ∧ ∃ (f : Int) (t : Option V), 0 ≤ f ∧ σ = [some (.ref p), some (.int m), some (.int f), t]) ⟨Exp.refl, hp, 0, _, Int.le_refl _, rfl⟩ ?_ ?_
  · rintro i σ H1 hi ⟨e1, hp1, f1, t, hf, rfl⟩
    have e9 : (10 : Int) ^ (Int.toNat 9) = 1000000000 := by decide
    walk_at "go"
    intro H2 d e2 hp2 hd0 hd1
    have e12 := e1.trans e2
    walk_at "go"
    exact ⟨_, _, Int.add_nonneg (Int.mul_nonneg hf (by decide)) hd0, rfl⟩
  · rintro σ H1 ⟨e1, hp1, f1, t, hf, rfl⟩
    walk_at "go"
    exact hq _ _ e1 hp1 (Int.emod_nonneg _ (by omega)) (Int.emod_lt_of_pos _ (by omega))
end
end FwW
end
section
set_option Elab.async false
set_option linter.all false
set_option maxRecDepth 100000
set_option maxHeartbeats 4000000
namespace FwW
open PySem PySem.Spec PyProof.Rows L2 FwR FwH Fw
local macro_rules | `(tactic| walk_at "go") => `(tactic| (repeat (first | refine ⟨_, rfl, ?_⟩ | refine ⟨_, _, rfl, rfl, ?_⟩ | refine ⟨_, _, rfl, lenTx (by assumption), ?_⟩ | refine ⟨_, _, rfl, ?_⟩ | refine ⟨_, _, _, rfl, ?_⟩ | refine ⟨Or.inl ⟨by omega, by omega⟩, ?_⟩ | refine ⟨Or.inr ⟨by omega, by omega⟩, ?_⟩ | refine ⟨⟨by omega, by omega⟩, ?_⟩ | refine ⟨(rfl : ("str" : String) = "str"), ?_⟩ | refine ⟨_, _, rfl, sqT_new, rfl, ?_⟩ | refine ⟨_, _, rfl, sqT_of (by assumption), rfl, ?_⟩ | refine ⟨⟨_, rfl⟩, ?_⟩ | refine And.intro scS ?_ | refine And.intro scI ?_ | refine And.intro (short (Nat.le_of_ble_eq_true rfl)) ?_ | refine ⟨_, _, rfl, .inr (by assumption), rfl, ws_flat _, ?_⟩ | refine ⟨_, _, rfl, lenT (by assumption), ?_⟩ | refine ⟨_, _, rfl, lenL (by assumption), ?_⟩ | refine ⟨_, _, _, _, _, rfl, by assumption, Tc.dcls (by assumption), Tc.dkept (by assumption), rfl, ?_⟩ | refine .inl ⟨_, rfl, ?_⟩ | refine .inr ⟨_, rfl, ?_⟩ | refine And.intro (by omega) ?_ | refine ⟨_, _, _, _, _, rfl, .ty _, .base (.int _), kit_ii, ?_⟩ | refine ⟨_, _, _, _, _, rfl, .ty _, .base (.int _), kit_ib, ?_⟩ | refine ⟨_, _, _, _, _, rfl, .ty _, .base (.str _), kit_ss, ?_⟩ | refine ⟨_, _, _, _, _, rfl, .ty _, .base (.bl _), kit_bb, ?_⟩ | refine ⟨_, _, _, _, _, rfl, .ty _, ty_t (by assumption), kit_tt, ?_⟩ | refine iteT ?_ | refine iteF ?_ | refine niT ?_ | refine nsT ?_ | refine nrT ?_ | refine nnF ?_ | refine iiF ?_ | refine isF ?_ | refine irF ?_ | refine nnT ?_ | refine eT (by omega) ?_ | refine eF (by omega) ?_ | refine nT (by omega) ?_ | refine nF (by omega) ?_ | refine dT (by omega) ?_ | refine dF (by omega) ?_)))
section
variable {P : Program} {w : World} {K : PySem.W.Frag} {mg : Str → Option Value} {base : Heap}
def bitsD (n : Nat) : Dm := ⟨decide (n / 1 % 2 = 1), decide (n / 2 % 2 = 1), decide (n / 4 % 2 = 1), decide (n / 8 % 2 = 1)⟩
def spWaysL : Sp := fun vs H Q _ => ∃ n : Nat, vs = [.int n] ∧ ∀ H' a, Ext H H' → H' a = some (.lst (ws (bitsD n))) → Q (.ref a) H'
theorem sc_law_ways : FnScope ["_law_number", "_law_sign", "_law_size"] ["_law_number"] (defScope s_law_ways) := ⟨rfl, rfl, rfl, by decide +kernel, rfl, by decide +kernel, by decide +kernel⟩
theorem av_law_ways (T : Tx w K mg) (c : Tc K) (h : Here K mg "_law_ways" "_law_ways" s_law_ways) : Av P w K mg base "_law_ways" 1 ["_law_number"] spWaysL := by
  refine av_mk h sc_law_ways (fun _ _ _ _ _ _ us hl => match us, hl with | [_], _ => rfl) (fun vs H Q E hs => ?_) (fun f cdv A outer s H vs Q E hr hs => ?_)
  · obtain ⟨n, rfl, _⟩ := hs
    rfl
  obtain ⟨n, rfl, hq⟩ := hs
  refine ⟨_, (pss_one (ps_ret (pe_lc (own := [("_law_sign", 1), ("_law_size", 2)]) (by rfl) sc_law_ways.nd (pi_listK (K := K) rfl (pe_lst (pa_cons (pe_tup (pa_cons pe_str (pa_cons pe_int pa_nil))) (pa_cons (pe_tup (pa_cons pe_str (pa_cons pe_int pa_nil))) (pa_cons (pe_tup (pa_cons pe_str (pa_cons pe_int pa_nil))) (pa_cons (pe_tup (pa_cons pe_str (pa_cons pe_int pa_nil))) pa_nil)))))) (blkOk_by (own := [("_law_sign", 1), ("_law_size", 2)]) (N := ["_law_number", "_law_sign", "_law_size"]) (sc := (defScope s_law_ways)) (by decide +kernel)) (fun _ _ _ _ _ => (pg_tupK (K := K) (n := 2) rfl rfl (pgs_cons (pg_name (i := 1) sc_law_ways.nd rfl (Or.inl rfl)) (pgs_cons (pg_name (i := 2) sc_law_ways.nd rfl (Or.inl rfl)) pgs_nil)))) (fun _ _ _ _ _ => (pts_one (pt_cmpR op_eq (pe_op op_mod (pe_callTy call_int1 (by rfl) T.int_ (by decide +kernel) (pa_cons (pe_op op_fdiv (pv 0) (pv 2)) pa_nil)) pe_int) pe_int (nomark _)))) (fun _ _ _ _ _ => (pv 1))))), ?_⟩
  walk_at "go"
  intro p1 h1
  have eH := Ext.new (H := H) (o := (.tup [.str "00", .int 1])) h1
  have hT1 : SqT K (upd H p1 (.tup [.str "00", .int 1])) p1 [.str "00", .int 1] := sqT_new
  generalize upd H p1 (.tup [.str "00", .int 1]) = G1 at hT1 eH ⊢
  walk_at "go"
  intro p2 h2
  replace hT1 := (Ext.new (o := (.tup [.str "01", .int 2])) h2).sqT hT1
  replace eH := eH.trans (Ext.new (o := (.tup [.str "01", .int 2])) h2)
  have hT2 : SqT K (upd G1 p2 (.tup [.str "01", .int 2])) p2 [.str "01", .int 2] := sqT_new
  generalize upd G1 p2 (.tup [.str "01", .int 2]) = G2 at hT1 hT2 eH ⊢
  walk_at "go"
  intro p3 h3
  replace hT1 := (Ext.new (o := (.tup [.str "10", .int 4])) h3).sqT hT1
  replace hT2 := (Ext.new (o := (.tup [.str "10", .int 4])) h3).sqT hT2
  replace eH := eH.trans (Ext.new (o := (.tup [.str "10", .int 4])) h3)
  have hT3 : SqT K (upd G2 p3 (.tup [.str "10", .int 4])) p3 [.str "10", .int 4] := sqT_new
  generalize upd G2 p3 (.tup [.str "10", .int 4]) = G3 at hT1 hT2 hT3 eH ⊢
  walk_at "go"
  intro p4 h4
  replace hT1 := (Ext.new (o := (.tup [.str "11", .int 8])) h4).sqT hT1
  replace hT2 := (Ext.new (o := (.tup [.str "11", .int 8])) h4).sqT hT2
  replace hT3 := (Ext.new (o := (.tup [.str "11", .int 8])) h4).sqT hT3
  replace eH := eH.trans (Ext.new (o := (.tup [.str "11", .int 8])) h4)
  have hT4 : SqT K (upd G3 p4 (.tup [.str "11", .int 8])) p4 [.str "11", .int 8] := sqT_new
  generalize upd G3 p4 (.tup [.str "11", .int 8]) = G4 at hT1 hT2 hT3 hT4 eH ⊢
  walk_at "go"
  intro l hl
  replace hT1 := (Ext.new (o := (.lst [.ref p1, .ref p2, .ref p3, .ref p4])) hl).sqT hT1
  replace hT2 := (Ext.new (o := (.lst [.ref p1, .ref p2, .ref p3, .ref p4])) hl).sqT hT2
  replace hT3 := (Ext.new (o := (.lst [.ref p1, .ref p2, .ref p3, .ref p4])) hl).sqT hT3
  replace hT4 := (Ext.new (o := (.lst [.ref p1, .ref p2, .ref p3, .ref p4])) hl).sqT hT4
  replace eH := eH.trans (Ext.new (o := (.lst [.ref p1, .ref p2, .ref p3, .ref p4])) hl)
  have hL : SqL K (upd G4 l (.lst [.ref p1, .ref p2, .ref p3, .ref p4])) l [.ref p1, .ref p2, .ref p3, .ref p4] := sqL_new
  generalize upd G4 l (.lst [.ref p1, .ref p2, .ref p3, .ref p4]) = H5 at hT1 hT2 hT3 hT4 eH hL ⊢
  walk_at "go"
  try refine ⟨⟨_, hL⟩, ?_⟩
  intro D hD
  refine lc_pure walk_list (fun i => keptW (bitsD n) i) hD rfl (fun _ e => e.sqL hL) (fun i hi => keptW_le _ i) ?_ ?_
  · rintro i v H1 H2 hi e1 ⟨rfl, hv⟩ Ky K0 hy h0
    have hi4 : i < 4 := hi
    rcases (by omega : i = 0 ∨ i = 1 ∨ i = 2 ∨ i = 3) with rfl | rfl | rfl | rfl
    · have hv2 : v = .ref p1 := by cases hv; rfl
      subst hv2
      have hT := e1.sqT hT1
      refine ⟨_, _, rfl, hT, rfl, ?_⟩
      walk_at "go"
      refine ⟨rfl, ?_⟩
      walk_at "go"
      have ea : keptW (bitsD n) (0 + 1) = keptW (bitsD n) 0 ++ (if inV (.str "00") (ws (bitsD n)) = true then [.str "00"] else []) := filter_next rfl
      rw [in00] at ea
      by_cases hb : n / 1 % 2 = 1
      · refine eT (i := (n : Int) / 1 % 2) (j := 1) (by omega) ?_
        walk_at "go"
        exact hy _ _ Ext.refl (by rw [ea]; exact congrArg _ (if_pos (decide_eq_true hb)))
      · refine eF (i := (n : Int) / 1 % 2) (j := 1) (by omega) ?_
        exact h0 _ Ext.refl (by rw [ea]; exact (congrArg _ (if_neg (fun z => hb (of_decide_eq_true z)))).trans (List.append_nil _))
    · have hv2 : v = .ref p2 := by cases hv; rfl
      subst hv2
      have hT := e1.sqT hT2
      refine ⟨_, _, rfl, hT, rfl, ?_⟩
      walk_at "go"
      refine ⟨rfl, ?_⟩
      walk_at "go"
      have ea : keptW (bitsD n) (1 + 1) = keptW (bitsD n) 1 ++ (if inV (.str "01") (ws (bitsD n)) = true then [.str "01"] else []) := filter_next rfl
      rw [in01] at ea
      by_cases hb : n / 2 % 2 = 1
      · refine eT (i := (n : Int) / 2 % 2) (j := 1) (by omega) ?_
        walk_at "go"
        exact hy _ _ Ext.refl (by rw [ea]; exact congrArg _ (if_pos (decide_eq_true hb)))
      · refine eF (i := (n : Int) / 2 % 2) (j := 1) (by omega) ?_
        exact h0 _ Ext.refl (by rw [ea]; exact (congrArg _ (if_neg (fun z => hb (of_decide_eq_true z)))).trans (List.append_nil _))
    · have hv2 : v = .ref p3 := by cases hv; rfl
      subst hv2
      have hT := e1.sqT hT3
      refine ⟨_, _, rfl, hT, rfl, ?_⟩
      walk_at "go"
      refine ⟨rfl, ?_⟩
      walk_at "go"
      have ea : keptW (bitsD n) (2 + 1) = keptW (bitsD n) 2 ++ (if inV (.str "10") (ws (bitsD n)) = true then [.str "10"] else []) := filter_next rfl
      rw [in10] at ea
      by_cases hb : n / 4 % 2 = 1
      · refine eT (i := (n : Int) / 4 % 2) (j := 1) (by omega) ?_
        walk_at "go"
        exact hy _ _ Ext.refl (by rw [ea]; exact congrArg _ (if_pos (decide_eq_true hb)))
      · refine eF (i := (n : Int) / 4 % 2) (j := 1) (by omega) ?_
        exact h0 _ Ext.refl (by rw [ea]; exact (congrArg _ (if_neg (fun z => hb (of_decide_eq_true z)))).trans (List.append_nil _))
    · have hv2 : v = .ref p4 := by cases hv; rfl
      subst hv2
      have hT := e1.sqT hT4
      refine ⟨_, _, rfl, hT, rfl, ?_⟩
      walk_at "go"
      refine ⟨rfl, ?_⟩
      walk_at "go"
      have ea : keptW (bitsD n) (3 + 1) = keptW (bitsD n) 3 ++ (if inV (.str "11") (ws (bitsD n)) = true then [.str "11"] else []) := filter_next rfl
      rw [in11] at ea
      by_cases hb : n / 8 % 2 = 1
      · refine eT (i := (n : Int) / 8 % 2) (j := 1) (by omega) ?_
        walk_at "go"
        exact hy _ _ Ext.refl (by rw [ea]; exact congrArg _ (if_pos (decide_eq_true hb)))
      · refine eF (i := (n : Int) / 8 % 2) (j := 1) (by omega) ?_
        exact h0 _ Ext.refl (by rw [ea]; exact (congrArg _ (if_neg (fun z => hb (of_decide_eq_true z)))).trans (List.append_nil _))
  · intro H1 e1 hD1
    exact hq H1 D (eH.trans e1) (by rw [hD1]; exact congrArg (fun z => some (HO.lst z)) (keptW_all (bitsD n)))
theorem shaped_wsL : ∀ x : Dm, SeqAt.shaped (.list ((wsL x).map PyData.str)) = true := by
  rintro ⟨a, b, c, d⟩
  cases a <;> cases b <;> cases c <;> cases d <;> decide +kernel
theorem eqv_noL : ∀ x : Dm, PyData.eqv (.list ((wsL x).map PyData.str)) (.list []) = decide (wsL x = []) := by
  rintro ⟨a, b, c, d⟩
  cases a <;> cases b <;> cases c <;> cases d <;> decide +kernel
def spLine (K : PySem.W.Frag) : Sp := fun vs H Q _ => ∃ (a : Addr) (x : Dm), vs = [.ref a] ∧ SqL K H a (ws x) ∧ ∀ H', Ext H H' → Q (.str (lineS x)) H'
theorem sc_law_line : FnScope ["_law_ways_here"] ["_law_ways_here"] (defScope s_law_line) := ⟨rfl, rfl, rfl, by decide +kernel, rfl, by decide +kernel, by decide +kernel⟩
theorem av_law_line (T : Tx w K mg) (c : Tc K) (h : Here K mg "_law_line" "_law_line" s_law_line) : Av P w K mg base "_law_line" 1 ["_law_ways_here"] (spLine K) := by
  refine av_mk h sc_law_line (fun _ _ _ _ _ _ us hl => match us, hl with | [_], _ => rfl) (fun vs H Q E hs => ?_) (fun f cdv A outer s H vs Q E hr hs => ?_)
  · obtain ⟨a, x, rfl, _⟩ := hs
    rfl
  obtain ⟨a, x, rfl, hL, hq⟩ := hs
  refine ⟨_, (pss_one (ps_ret (pe_ifExp (pt_cmpR (op_neK (K := K) rfl hr.units) (pv 0) (pe_lst pa_nil) (nomark _)) (pe_joinK (K := K) rfl pe_str (pv 0)) pe_str))), ?_⟩
  walk_at "go"
  intro p hp
  have e1 : Ext H (upd H p (.lst [])) := Ext.new hp
  have hL1 := e1.sqL hL
  have hf := hq _ e1
  refine ⟨_, _, .lst hL1 (dpS (wsL x)), .lst sqL_new .nil, shaped_wsL x, rfl, ?_⟩
  walk_at "go"
  rw [eqv_noL]
  by_cases hx : wsL x = []
  · refine ntF hx ?_
    walk_at "go"
    rw [show lineS x = "none" from if_pos hx] at hf
    exact hf
  · refine ntT hx ?_
    walk_at "go"
    refine ⟨_, _, wsL x, rfl, rfl, .inl hL1, join_ws x, ?_⟩
    rw [show lineS x = Txt.join " " (wsL x) from if_neg hx] at hf
    exact hf
theorem sc_law_choose : FnScope ["_law_many", "_law_some", "_law_found", "_law_k"] ["_law_many", "_law_some"] (defScope s_law_choose) := ⟨rfl, rfl, rfl, by decide +kernel, rfl, by decide +kernel, by decide +kernel⟩
theorem av_law_choose (T : Tx w K mg) (c : Tc K) (h : Here K mg "_law_choose" "_law_choose" s_law_choose) : Av P w K mg base "_law_choose" 1 ["_law_many", "_law_some"] spBin := by
  refine av_mk h sc_law_choose (fun _ _ _ _ _ _ us hl => match us, hl with | [_, _], _ => rfl) (fun vs H Q E hs => ?_) (fun f cdv A outer s H vs Q E hr hs => ?_)
  · obtain ⟨n, r, rfl, _⟩ := hs
    rfl
  obtain ⟨n, r, rfl, hn, hq⟩ := hs
  refine ⟨_, (pss_cons (ps_if (PW.pt (pw_or (pt_cmpR op_lt (pv 1) pe_int (nomark _)) (pw_or1 (pt_cmpR op_gt (pv 1) (pv 0) (nomark _))))) (pss_one (ps_ret pe_int)) pss_nil)
    (pss_cons (ps_set (i := 2) sc_law_choose.nd rfl (Or.inl rfl) pe_int)
    (pss_cons (ps_for PassesOwn.never rfl (pi_range1 (by rfl) T.range (pa_cons (pe_callB (call_min2 rfl) (by rfl) T.min (by decide +kernel) (pa_cons (pv 1) (pa_cons (pe_op op_sub (pv 0) (pv 1)) pa_nil))) pa_nil)) (pg_name (i := 3) sc_law_choose.nd rfl (Or.inl rfl))
    (pss_one (ps_set (i := 2) sc_law_choose.nd rfl (Or.inl rfl) (pe_op op_fdiv (pe_op op_mul (pv 2) (pe_op op_sub (pv 0) (pv 3))) (pe_op op_add (pv 3) pe_int)))))
    (pss_one (ps_ret (pv 2)))))), ?_⟩
  walk_at "go"
  refine d2 (fun h0 => ?_) (fun h0 => ?_)
  · walk_at "go"
    have e : binI n r = 0 := if_pos (.inl h0)
    rw [e] at hq
    exact hq
  walk_at "go"
  refine d2 (fun h1 => ?_) (fun h1 => ?_)
  · have e : binI n r = 0 := if_pos (.inr h1)
    rw [e] at hq
    exact hq
  · skip
    have e : binI n r = ((C n.toNat r.toNat : Nat) : Int) := if_neg (by omega)
    rw [e] at hq
    obtain ⟨m, hm, hC⟩ : ∃ m : Nat, (if n - r < r then n - r else r) = (m : Int) ∧ C n.toNat m = C n.toNat r.toNat := by
      by_cases hlt : n - r < r
      · refine ⟨n.toNat - r.toNat, by rw [if_pos hlt]; omega, C_sym' (by omega)⟩
      · exact ⟨r.toNat, by rw [if_neg hlt]; omega, rfl⟩
    have hmn : m ≤ n.toNat := by
      by_cases hlt : n - r < r
      · rw [if_pos hlt] at hm; omega
      · rw [if_neg hlt] at hm; omega
    walk_at "go"
    rw [hm]
    walk_at "go"
    refine for_range (lo := 0) (n := m) (fun i σ H' => H' = H ∧ ∃ k, σ = [some (.int n), some (.int r), some (.int ((C n.toNat i : Nat) : Int)), k]) ⟨rfl, _, by rw [C_zero] <;> rfl⟩ ?_ ?_
    · rintro i σ H' hi ⟨rfl, k, rfl⟩
      walk_at "go"
      refine ⟨rfl, some (.int (0 + (i : Int))), ?_⟩
      have e1 : (((C n.toNat i : Nat) : Int) * (n - (0 + (i : Int)))) / (0 + (i : Int) + 1) = ((C n.toNat (i + 1) : Nat) : Int) := by
        rw [← C_next_div, Int.zero_add]
        have e2 : n - (i : Int) = ((n.toNat - i : Nat) : Int) := by omega
        rw [e2]
        push_cast
        rfl
      rw [← e1]
      rfl
    · rintro σ H' ⟨rfl, k, rfl⟩
      walk_at "go"
      rw [hC]
      exact hq
end
end FwW
end
section
set_option Elab.async false
set_option linter.all false
set_option maxRecDepth 100000
set_option maxHeartbeats 4000000
namespace FwW
open PySem PySem.Spec PyProof.Rows L2 FwR FwH Fw
local macro_rules | `(tactic| walk_at "go") => `(tactic| (repeat (first | refine ⟨_, rfl, ?_⟩ | refine ⟨_, _, rfl, rfl, ?_⟩ | refine ⟨_, _, rfl, lenTx (by assumption), ?_⟩ | refine ⟨_, _, rfl, ?_⟩ | refine ⟨_, _, _, rfl, ?_⟩ | refine ⟨Or.inl ⟨by omega, by omega⟩, ?_⟩ | refine ⟨Or.inr ⟨by omega, by omega⟩, ?_⟩ | refine ⟨⟨by omega, by omega⟩, ?_⟩ | refine ⟨(rfl : ("str" : String) = "str"), ?_⟩ | refine ⟨_, _, rfl, sqT_new, rfl, ?_⟩ | refine ⟨_, _, rfl, sqT_of (by assumption), rfl, ?_⟩ | refine ⟨⟨_, rfl⟩, ?_⟩ | refine And.intro scS ?_ | refine And.intro scI ?_ | refine And.intro (short (Nat.le_of_ble_eq_true rfl)) ?_ | refine ⟨_, _, rfl, .inr (by assumption), rfl, ws_flat _, ?_⟩ | refine ⟨_, _, rfl, lenT (by assumption), ?_⟩ | refine ⟨_, _, rfl, lenL (by assumption), ?_⟩ | refine ⟨_, _, _, _, _, rfl, by assumption, Tc.dcls (by assumption), Tc.dkept (by assumption), rfl, ?_⟩ | refine .inl ⟨_, rfl, ?_⟩ | refine .inr ⟨_, rfl, ?_⟩ | refine And.intro (by omega) ?_ | refine ⟨_, _, _, _, _, rfl, .ty _, .base (.int _), kit_ii, ?_⟩ | refine ⟨_, _, _, _, _, rfl, .ty _, .base (.int _), kit_ib, ?_⟩ | refine ⟨_, _, _, _, _, rfl, .ty _, .base (.str _), kit_ss, ?_⟩ | refine ⟨_, _, _, _, _, rfl, .ty _, .base (.bl _), kit_bb, ?_⟩ | refine ⟨_, _, _, _, _, rfl, .ty _, ty_t (by assumption), kit_tt, ?_⟩ | refine iteT ?_ | refine iteF ?_ | refine niT ?_ | refine nsT ?_ | refine nrT ?_ | refine nnF ?_ | refine iiF ?_ | refine isF ?_ | refine irF ?_ | refine nnT ?_ | refine eT (by omega) ?_ | refine eF (by omega) ?_ | refine nT (by omega) ?_ | refine nF (by omega) ?_ | refine dT (by omega) ?_ | refine dF (by omega) ?_)))
section
variable {P : Program} {w : World} {K : PySem.W.Frag} {mg : Str → Option Value} {base : Heap}
def spMostL (K : PySem.W.Frag) : Sp := fun vs H Q _ => ∃ (a : Addr) (x : Dm) (n : Nat), vs = [.ref a, .int n] ∧ SqL K H a (ws x) ∧ n ≤ 1000 ∧ ∀ H', Ext H H' → Q (mostV x n) H'
def apL (x : Dm) : List Str := (if x.b then [("01" : Str)] else []) ++ (if x.c then [("10" : Str)] else [])
theorem apL_all : ∀ x : Dm, apartW x (ws x).length = (apL x).map V.str := by
  rintro ⟨a, b, c, d⟩
  cases a <;> cases b <;> cases c <;> cases d <;> decide
theorem apL_len : ∀ x : Dm, (apL x).length = x.apart := by
  rintro ⟨a, b, c, d⟩
  cases b <;> cases c <;> rfl
theorem apL_shaped : ∀ x : Dm, SeqAt.shaped (.list ((apL x).map PyData.str)) = true := by
  rintro ⟨a, b, c, d⟩
  cases a <;> cases b <;> cases c <;> cases d <;> decide +kernel
theorem apL_eqv : ∀ x : Dm, PyData.eqv (.list ((apL x).map PyData.str)) (.list []) = decide (x.apart = 0) := by
  rintro ⟨a, b, c, d⟩
  cases a <;> cases b <;> cases c <;> cases d <;> decide +kernel
theorem sc_law_most : FnScope ["_law_ways_here", "_law_deep", "_law_unlike", "_law_alike", "_law_found", "_law_turn", "_law_sign"] ["_law_ways_here", "_law_deep"] (defScope s_law_most) := ⟨rfl, rfl, rfl, by decide +kernel, rfl, by decide +kernel, by decide +kernel⟩
theorem av_law_most (T : Tx w K mg) (c : Tc K) (h : Here K mg "_law_most" "_law_most" s_law_most) (A_law_choose : Av P w K mg base "_law_choose" 1 ["_law_many", "_law_some"] spBin) : Av P w K mg base "_law_most" 2 ["_law_ways_here", "_law_deep"] (spMostL K) := by
  refine av_mk h sc_law_most (fun _ _ _ _ _ _ us hl => match us, hl with | [_, _], _ => rfl) (fun vs H Q E hs => ?_) (fun f cdv A outer s H vs Q E hr hs => ?_)
  · obtain ⟨a, x, n, rfl, _⟩ := hs
    rfl
  obtain ⟨a, x, n, rfl, hL, hn, hq⟩ := hs
  refine ⟨_, (pss_cons (ps_setLc (i := 2) (own := [("_law_sign", 6)]) (g := gName 6) (by rfl) sc_law_most.nd rfl rfl (sw_true rfl rfl rfl (by decide +kernel)) (pi_listK (K := K) rfl (pv 0)) (blkOk_by (own := [("_law_sign", 6)]) (N := ["_law_ways_here", "_law_deep", "_law_unlike", "_law_alike", "_law_found", "_law_turn", "_law_sign"]) (sc := (defScope s_law_most)) (by decide +kernel)) (fun _ _ _ _ _ => (pg_name (i := 6) sc_law_most.nd rfl (Or.inl rfl))) (fun _ _ _ _ _ => (pts_one (pt_cmpR (op_inK (K := K) rfl) (pv 6) (pe_lst (pa_cons pe_str (pa_cons pe_str pa_nil))) (by rfl)))) (fun _ _ _ _ _ => (pv 6)))
    (pss_cons (ps_set (i := 3) sc_law_most.nd rfl (Or.inl rfl) (pe_op op_sub (pe_callB (call_lenK (K := K) rfl) (by rfl) T.len PySem.boot_len (pa_cons (pv 0) pa_nil)) (pe_callB (call_lenK (K := K) rfl) (by rfl) T.len PySem.boot_len (pa_cons (pv 2) pa_nil))))
    (pss_cons (ps_if (pt_cmpR (op_eqK (K := K) rfl hr.units) (pv 2) (pe_lst pa_nil) (nomark _)) (pss_one (ps_ret (pe_ifExp (pt_cmpR op_ge (pv 1) (pv 3) (nomark _)) pe_non pe_int))) pss_nil)
    (pss_cons (ps_if (pt_cmpR op_eq (pe_callB (call_lenK (K := K) rfl) (by rfl) T.len PySem.boot_len (pa_cons (pv 2) pa_nil)) pe_int (nomark _)) (pss_cons (ps_set (i := 4) sc_law_most.nd rfl (Or.inl rfl) pe_int)
    (pss_cons (ps_for PassesOwn.never rfl (pi_range1 (by rfl) T.range (pa_cons (pe_op op_sub (pv 1) (pv 3)) pa_nil)) (pg_name (i := 5) sc_law_most.nd rfl (Or.inl rfl))
    (pss_one (ps_set (i := 4) sc_law_most.nd rfl (Or.inl rfl) (pe_op op_mul (pv 4) pe_int))))
    (pss_one (ps_ret (pv 4))))) pss_nil)
    (pss_cons (ps_if (pt_cmpR op_eq (pv 3) pe_int (nomark _)) (pss_one (ps_ret (pe_callB (call_max2 rfl) (by rfl) T.max (by decide +kernel) (pa_cons pe_int (pa_cons (pe_callV (A_law_choose.mono (by decide)) hr (by rfl) (pa_cons (pe_op op_sub (pv 1) pe_int) (pa_cons (pe_op op_sub (pe_op op_fdiv (pv 1) pe_int) pe_int) pa_nil))) pa_nil))))) pss_nil)
    (pss_one (ps_ret (pe_callB (call_max2 rfl) (by rfl) T.max (by decide +kernel) (pa_cons pe_int (pa_cons (pe_callV (A_law_choose.mono (by decide)) hr (by rfl) (pa_cons (pv 1) (pa_cons (pe_op op_add (pe_op op_fdiv (pv 1) pe_int) (pv 3)) pa_nil))) pa_nil)))))))))), ?_⟩
  walk_at "go"
  try refine ⟨⟨_, hL⟩, ?_⟩
  intro D hD
  refine lc_pure walk_list (fun i => apartW x i) hD rfl (fun _ e => e.sqL hL) (fun i hi => apartW_le x i) ?_ ?_
  · rintro i v H1 H2 hi e1 ⟨rfl, hv⟩ Ky K0 hy h0
    refine ⟨rfl, ?_⟩
    walk_at "go"
    intro p hp
    refine ⟨_, _, rfl, .inl sqL_new, ws_flat1 hv, rfl, ?_⟩
    have e2 : Ext H2 (upd H2 p (.lst [.str "01", .str "10"])) := Ext.new hp
    have ea : apartW x (i + 1) = apartW x i ++ (if inV v [.str "01", .str "10"] = true then [v] else []) := filter_next hv
    walk_at "go"
    refine b2 (fun hb => ?_) (fun hb => ?_)
    · walk_at "go"
      exact hy _ _ e2 (by rw [ea]; exact congrArg _ (if_pos hb))
    · exact h0 _ e2 (by rw [ea]; exact (congrArg _ (if_neg (by rw [show inV v [.str "01", .str "10"] = false from hb]; decide))).trans (List.append_nil _))
  · intro H1 e1 hD1
    rw [apL_all] at hD1
    have hU := sqL_of (K := K) hD1
    have hL1 := e1.sqL hL
    have hwl := ws_len x
    have hal : ((apL x).map V.str).length = x.apart := (List.length_map _).trans (apL_len x)
    have ha := x.apart_le
    have hs2 := x.same_le
    walk_at "go"
    rw [hal, hwl]
    have e5 : ((x.apart + x.same : Nat) : Int) - ((x.apart : Nat) : Int) = ((x.same : Nat) : Int) := by omega
    try dsimp (config := { proj := false, zeta := false }) only
    rw [e5]
    walk_at "go"
    intro p hp
    have e2 : Ext H1 (upd H1 p (.lst [])) := Ext.new hp
    have hU2 := e2.sqL hU
    have hq1 := hq _ (e1.trans e2)
    refine ⟨_, _, .lst hU2 (dpS (apL x)), .lst sqL_new .nil, apL_shaped x, rfl, ?_⟩
    generalize upd H1 p (.lst []) = H2 at hU2 hq1 ⊢
    walk_at "go"
    rw [apL_eqv]
    unfold mostV most at hq1
    by_cases h0 : x.apart = 0
    · rw [if_pos h0] at hq1
      refine dT h0 ?_
      walk_at "go"
      refine d2 (fun h1 => ?_) (fun h1 => ?_)
      · rw [if_pos (by omega)] at hq1
        exact hq1
      · rw [if_neg (by omega)] at hq1
        exact hq1
    rw [if_neg h0] at hq1
    refine dF h0 ?_
    walk_at "go"
    rw [hal]
    by_cases h1 : x.apart = 1
    · rw [if_pos h1] at hq1
      refine eT (by omega) ?_
      walk_at "go"
      refine for_range (n := ((n : Int) - (x.same : Nat)).toNat) (fun i σ H' => H' = H2 ∧ ∃ t : Option V, σ = [some (.ref a), some (.int n), some (.ref D), some (.int (x.same : Nat)), some (.int ((2 ^ i : Nat) : Int)), t, none]) ⟨rfl, _, rfl⟩ ?_ ?_
      · rintro i σ H' hi ⟨rfl, t, rfl⟩
        walk_at "go"
        refine ⟨rfl, some (.int (0 + (i : Int))), ?_⟩
        have e1 : ((2 ^ i : Nat) : Int) * 2 = ((2 ^ (i + 1) : Nat) : Int) := by rw [Nat.pow_succ]; push_cast; rfl
        rw [← e1]
        rfl
      · rintro σ H' ⟨rfl, t, rfl⟩
        walk_at "go"
        rw [show ((n : Int) - (x.same : Nat)).toNat = n - x.same by omega]
        exact hq1
    rw [if_neg h1] at hq1
    refine eF (by omega) ?_
    walk_at "go"
    by_cases h2 : x.same = 2
    · rw [if_pos h2] at hq1
      refine eT (by omega) ?_
      walk_at "go"
      rw [all_nat]
      exact hq1
    rw [if_neg h2] at hq1
    refine eF (by omega) ?_
    walk_at "go"
    have e : (n : Int) / 2 + ((x.same : Nat) : Int) = ((n / 2 + x.same : Nat) : Int) := by omega
    have e3 : (if ((C n (n / 2 + x.same) : Nat) : Int) > 1 then ((C n (n / 2 + x.same) : Nat) : Int) else 1) = ((max 1 (C n (n / 2 + x.same)) : Nat) : Int) := max_nat (a := 1)
    rw [e, binI_nat, e3]
    exact hq1
theorem most_pos {x : Dm} {n m : Nat} (h : most x n = some m) : 1 ≤ m := by
  unfold most at h
  by_cases h0 : x.apart = 0
  · rw [if_pos h0] at h
    by_cases h1 : x.same ≤ n
    · rw [if_pos h1] at h; cases h
    · rw [if_neg h1] at h; cases h; exact Nat.le_refl _
  · rw [if_neg h0] at h
    by_cases h1 : x.apart = 1
    · rw [if_pos h1] at h
      cases h
      exact Nat.pow_pos (by decide)
    · rw [if_neg h1] at h
      by_cases h2 : x.same = 2
      · rw [if_pos h2] at h; cases h; omega
      · rw [if_neg h2] at h; cases h; omega
theorem ws_ne : ∀ (x : Dm) (c s : Int), HO.lst (ws x) ≠ HO.lst [.int c, .int s] := by
  rintro ⟨a, b, c, d⟩ c1 s1 h
  have h2 := HO.lst.inj h
  cases a <;> cases b <;> cases c <;> cases d <;> cases h2
theorem ws_apart {H : Hp} {p a : Addr} {x : Dm} (hp : Pu H p) (ha : H a = some (.lst (ws x))) : a ≠ p := by
  obtain ⟨c, s, h, _⟩ := hp
  exact ne_of ha h (ws_ne x c s)
theorem pu_new {H : Hp} {p q : Addr} (hp : Pu H p) (hq : H q = none) : q ≠ p := by
  obtain ⟨c, s, h, _⟩ := hp
  intro e
  subst e
  rw [h] at hq
  cases hq
def spSomeMany : Sp := fun vs H Q _ => ∃ (p a : Addr) (x : Dm), vs = [.ref p, .ref a] ∧ Pu H p ∧ H a = some (.lst (ws x)) ∧ ∀ H' m, Exp p H H' → Pu H' p → 1 ≤ m → m ≤ 10 ^ 40 → Q (.int m) H'
theorem sc_law_some_many : FnScope ["_law_purse_here", "_law_ways_here", "_law_deep", "_law_form", "_law_most_here"] ["_law_purse_here", "_law_ways_here"] (defScope s_law_some_many) := ⟨rfl, rfl, rfl, by decide +kernel, rfl, by decide +kernel, by decide +kernel⟩
theorem av_law_some_many (T : Tx w K mg) (c : Tc K) (h : Here K mg "_law_some_many" "_law_some_many" s_law_some_many) (A_law_take : Av P w K mg base "_law_take" 1 ["_law_purse_here", "_law_many"] spTake) (A_law_most : Av P w K mg base "_law_most" 2 ["_law_ways_here", "_law_deep"] (spMostL K)) (A_law_big : Av P w K mg base "_law_big" 2 ["_law_purse_here", "_law_many"] spBig) : Av P w K mg base "_law_some_many" 4 ["_law_purse_here", "_law_ways_here"] spSomeMany := by
  refine av_mk h sc_law_some_many (fun _ _ _ _ _ _ us hl => match us, hl with | [_, _], _ => rfl) (fun vs H Q E hs => ?_) (fun f cdv A outer s H vs Q E hr hs => ?_)
  · obtain ⟨p, a, x, rfl, _⟩ := hs
    rfl
  obtain ⟨p, a, x, rfl, hp, ha, hq⟩ := hs
  refine ⟨_, (pss_cons (ps_set (i := 2) sc_law_some_many.nd rfl (Or.inl rfl) (pe_callV (A_law_take.mono (by decide)) hr (by rfl) (pa_cons (pv 0) (pa_cons (pe_ix (ix_listK (K := K) rfl) (pe_lst (pa_cons pe_int (pa_cons pe_int (pa_cons pe_int (pa_cons pe_int pa_nil))))) (pe_callV (A_law_take.mono (by decide)) hr (by rfl) (pa_cons (pv 0) (pa_cons pe_int pa_nil))) (fun _ _ => rfl)) pa_nil))))
    (pss_cons (ps_par (i := 3) (j := 4) rfl sc_law_some_many.nd rfl rfl (by decide) rfl rfl (pa_cons (pe_callV (A_law_take.mono (by decide)) hr (by rfl) (pa_cons (pv 0) (pa_cons pe_int pa_nil))) (pa_cons (pe_callV (A_law_most.mono (by decide)) hr (by rfl) (pa_cons (pv 1) (pa_cons (pv 2) pa_nil))) pa_nil)) rfl)
    (pss_cons (ps_if (PW.pt (pw_or (pt_cmp (pc_isN (pv 4))) (pw_or1 (pt_cmpR op_eq (pv 3) pe_int (nomark _))))) (pss_one (ps_ret (pe_op op_add pe_int (pe_callV (A_law_big.mono (by decide)) hr (by rfl) (pa_cons (pv 0) (pa_cons (pe_ix (ix_listK (K := K) rfl) (pe_lst (pa_cons pe_int (pa_cons pe_int (pa_cons (pe_op op_pow pe_int pe_int) (pa_cons (pe_op op_pow pe_int pe_int) (pa_cons (pe_op op_pow pe_int pe_int) pa_nil)))))) (pe_callV (A_law_take.mono (by decide)) hr (by rfl) (pa_cons (pv 0) (pa_cons pe_int pa_nil))) (fun _ _ => rfl)) pa_nil)))))) pss_nil)
    (pss_cons (ps_if (pt_cmpR op_eq (pv 3) pe_int (nomark _)) (pss_one (ps_ret (pe_callB (call_min2 rfl) (by rfl) T.min (by decide +kernel) (pa_cons (pe_op op_add pe_int (pe_callV (A_law_big.mono (by decide)) hr (by rfl) (pa_cons (pv 0) (pa_cons (pv 4) pa_nil)))) (pa_cons (pe_op op_pow pe_int pe_int) pa_nil))))) pss_nil)
    (pss_one (ps_ret (pe_callB (call_min2 rfl) (by rfl) T.min (by decide +kernel) (pa_cons (pe_callB (call_max2 rfl) (by rfl) T.max (by decide +kernel) (pa_cons pe_int (pa_cons (pe_op op_add (pv 4) (pe_ix (ix_listK (K := K) rfl) (pe_lst (pa_cons pe_int (pa_cons pe_int (pa_cons (pe_un un_neg pe_int) pa_nil)))) (pe_op op_sub (pv 3) pe_int) (fun _ _ => rfl))) pa_nil))) (pa_cons (pe_op op_pow pe_int pe_int) pa_nil))))))))), ?_⟩
  have hne := ws_apart hp ha
  have e40 : (10 : Int) ^ Int.toNat 40 = 10 ^ 40 := by decide
  walk_at "go"
  intro l hl
  have hlp := pu_new hp hl
  have e1 : Ext H (upd H l (.lst [.int 12, .int 12, .int 40, .int 146])) := Ext.new hl
  have hp1 := e1.pu hp
  have ha1 := e1 _ _ ha
  have hl1 : upd H l (.lst [.int 12, .int 12, .int 40, .int 146]) l = some (.lst [.int 12, .int 12, .int 40, .int 146]) := upd_same
  have x1 := e1.exp (p := p)
  generalize upd H l (.lst [.int 12, .int 12, .int 40, .int 146]) = H1 at hp1 ha1 hl1 x1 ⊢
  walk_at "go"
  intro H2 d e2 hp2 hd0 hd1
  have hl2 := e2 l _ hlp hl1
  have x2 := x1.trans e2
  obtain ⟨m, hm, hm1, hm2⟩ : ∃ m : Int, atI [V.int 12, .int 12, .int 40, .int 146] d = some (.int m) ∧ 1 ≤ m ∧ m ≤ 146 := by
    rcases (by omega : d = 0 ∨ d = 1 ∨ d = 2 ∨ d = 3) with rfl | rfl | rfl | rfl
    · exact ⟨12, rfl, by decide, by decide⟩
    · exact ⟨12, rfl, by decide, by decide⟩
    · exact ⟨40, rfl, by decide, by decide⟩
    · exact ⟨146, rfl, by decide, by decide⟩
  refine ⟨_, _, _, _, rfl, rfl, sqL_of hl2, hm, ?_⟩
  walk_at "go"
  intro H3 dp e3 hp3 hz0 hz1
  have x3 := x2.trans e3
  walk_at "go"
  intro H4 fm e4 hp4 hf0 hf1
  have x4 := x3.trans e4
  have hL4 := sqL_of (K := K) (x4 a _ hne ha)
  obtain ⟨dn, rfl⟩ : ∃ dn : Nat, dp = dn := ⟨dp.toNat, by omega⟩
  walk_at "go"
  refine ⟨a, x, dn, rfl, hL4, by omega, fun H5 e5 => ?_⟩
  have hp5 := e5.pu hp4
  have x5 := x4.trans (e5.exp (p := p))
  walk_at "go"
  cases hms : most x dn with
  | none =>
    have h1 : mostV x dn = .non := by unfold mostV; rw [hms]
    rw [h1]
    walk_at "go"
    · skip
      intro l2 hl2
      have hlp2 := pu_new hp5 hl2
      have e6 : Ext H5 (upd H5 l2 (.lst [.int 8, .int 70, .int (10 ^ Int.toNat 9), .int (10 ^ Int.toNat 20), .int (10 ^ Int.toNat 40)])) := Ext.new hl2
      have hp6 := e6.pu hp5
      have hl6 : upd H5 l2 (.lst [.int 8, .int 70, .int (10 ^ Int.toNat 9), .int (10 ^ Int.toNat 20), .int (10 ^ Int.toNat 40)]) l2 = some (.lst [.int 8, .int 70, .int (10 ^ Int.toNat 9), .int (10 ^ Int.toNat 20), .int (10 ^ Int.toNat 40)]) := upd_same
      have x6 := x5.trans (e6.exp (p := p))
      try dsimp (config := { proj := false, zeta := false }) only
      generalize upd H5 l2 (.lst [.int 8, .int 70, .int (10 ^ Int.toNat 9), .int (10 ^ Int.toNat 20), .int (10 ^ Int.toNat 40)]) = H6 at hp6 hl6 x6 ⊢
      walk_at "go"
      intro H7 d7 e7 hp7 h70 h71
      have hl7 := e7 l2 _ hlp2 hl6
      obtain ⟨m7, hm7, hm71, hm72⟩ : ∃ m : Int, atI [V.int 8, .int 70, .int (10 ^ Int.toNat 9), .int (10 ^ Int.toNat 20), .int (10 ^ Int.toNat 40)] d7 = some (.int m) ∧ 1 ≤ m ∧ m ≤ 10 ^ 40 := by
        rcases (by omega : d7 = 0 ∨ d7 = 1 ∨ d7 = 2 ∨ d7 = 3 ∨ d7 = 4) with rfl | rfl | rfl | rfl | rfl
        · exact ⟨_, rfl, by decide, by decide⟩
        · exact ⟨_, rfl, by decide, by decide⟩
        · exact ⟨_, rfl, by decide, by decide⟩
        · exact ⟨_, rfl, by decide, by decide⟩
        · exact ⟨_, rfl, by decide, by decide⟩
      refine ⟨_, _, _, _, rfl, rfl, sqL_of hl7, hm7, ?_⟩
      walk_at "go"
      intro H8 d8 e8 hp8 h80 h81
      walk_at "go"
      exact hq H8 _ ((x6.trans e7).trans e8) hp8 (by omega) (by omega)
  | some mm =>
    have h1 : mostV x dn = .int (mm : Nat) := by unfold mostV; rw [hms]
    have hmp := most_pos hms
    rw [h1]
    walk_at "go"
    by_cases hf : fm = 0
    · refine eT hf ?_
      walk_at "go"
      intro l2 hl2
      have hlp2 := pu_new hp5 hl2
      have e6 : Ext H5 (upd H5 l2 (.lst [.int 8, .int 70, .int (10 ^ Int.toNat 9), .int (10 ^ Int.toNat 20), .int (10 ^ Int.toNat 40)])) := Ext.new hl2
      have hp6 := e6.pu hp5
      have hl6 : upd H5 l2 (.lst [.int 8, .int 70, .int (10 ^ Int.toNat 9), .int (10 ^ Int.toNat 20), .int (10 ^ Int.toNat 40)]) l2 = some (.lst [.int 8, .int 70, .int (10 ^ Int.toNat 9), .int (10 ^ Int.toNat 20), .int (10 ^ Int.toNat 40)]) := upd_same
      have x6 := x5.trans (e6.exp (p := p))
      try dsimp (config := { proj := false, zeta := false }) only
      generalize upd H5 l2 (.lst [.int 8, .int 70, .int (10 ^ Int.toNat 9), .int (10 ^ Int.toNat 20), .int (10 ^ Int.toNat 40)]) = H6 at hp6 hl6 x6 ⊢
      walk_at "go"
      intro H7 d7 e7 hp7 h70 h71
      have hl7 := e7 l2 _ hlp2 hl6
      obtain ⟨m7, hm7, hm71, hm72⟩ : ∃ m : Int, atI [V.int 8, .int 70, .int (10 ^ Int.toNat 9), .int (10 ^ Int.toNat 20), .int (10 ^ Int.toNat 40)] d7 = some (.int m) ∧ 1 ≤ m ∧ m ≤ 10 ^ 40 := by
        rcases (by omega : d7 = 0 ∨ d7 = 1 ∨ d7 = 2 ∨ d7 = 3 ∨ d7 = 4) with rfl | rfl | rfl | rfl | rfl
        · exact ⟨_, rfl, by decide, by decide⟩
        · exact ⟨_, rfl, by decide, by decide⟩
        · exact ⟨_, rfl, by decide, by decide⟩
        · exact ⟨_, rfl, by decide, by decide⟩
        · exact ⟨_, rfl, by decide, by decide⟩
      refine ⟨_, _, _, _, rfl, rfl, sqL_of hl7, hm7, ?_⟩
      walk_at "go"
      intro H8 d8 e8 hp8 h80 h81
      walk_at "go"
      exact hq H8 _ ((x6.trans e7).trans e8) hp8 (by omega) (by omega)
    · refine eF hf ?_
      walk_at "go"
      by_cases hf1 : fm = 1
      · refine eT hf1 ?_
        walk_at "go"
        intro H8 d8 e8 hp8 h80 h81
        walk_at "go"
        exact hq H8 _ (x5.trans e8) hp8 (by split <;> omega) (by split <;> omega)
      · refine eF hf1 ?_
        walk_at "go"
        intro l2 hl2
        have e6 : Ext H5 (upd H5 l2 (.lst [.int 0, .int 1, .int (-1)])) := Ext.new hl2
        have hp6 := e6.pu hp5
        have hl6 : upd H5 l2 (.lst [.int 0, .int 1, .int (-1)]) l2 = some (.lst [.int 0, .int 1, .int (-1)]) := upd_same
        have x6 := x5.trans (e6.exp (p := p))
        try dsimp (config := { proj := false, zeta := false }) only
        generalize upd H5 l2 (.lst [.int 0, .int 1, .int (-1)]) = H6 at hp6 hl6 x6 ⊢
        walk_at "go"
        obtain ⟨m7, hm7⟩ : ∃ m : Int, atI [V.int 0, .int 1, .int (-1)] (fm - 2) = some (.int m) := by
          rcases (by omega : fm = 2 ∨ fm = 3 ∨ fm = 4) with rfl | rfl | rfl
          · exact ⟨_, rfl⟩
          · exact ⟨_, rfl⟩
          · exact ⟨_, rfl⟩
        refine ⟨_, _, _, _, rfl, rfl, sqL_of hl6, hm7, ?_⟩
        walk_at "go"
        exact hq H6 _ x6 hp6 (by split <;> split <;> omega) (by split <;> split <;> omega)
def spRow : Sp := fun vs H Q _ => ∃ (p : Addr) (n : Nat), vs = [.ref p, .int n] ∧ Pu H p ∧ n ≤ 1000 ∧ ∀ H' l, Exp p H H' → Pu H' p → l.length = n → Q (.str (tx l)) H'
theorem sc_law_row : FnScope ["_law_purse_here", "_law_many", "_law_found", "_law_turn"] ["_law_purse_here", "_law_many"] (defScope s_law_row) := ⟨rfl, rfl, rfl, by decide +kernel, rfl, by decide +kernel, by decide +kernel⟩
theorem av_law_row (T : Tx w K mg) (c : Tc K) (h : Here K mg "_law_row" "_law_row" s_law_row) (A_law_take : Av P w K mg base "_law_take" 1 ["_law_purse_here", "_law_many"] spTake) : Av P w K mg base "_law_row" 2 ["_law_purse_here", "_law_many"] spRow := by
  refine av_mk h sc_law_row (fun _ _ _ _ _ _ us hl => match us, hl with | [_, _], _ => rfl) (fun vs H Q E hs => ?_) (fun f cdv A outer s H vs Q E hr hs => ?_)
  · obtain ⟨p, n, rfl, _⟩ := hs
    rfl
  obtain ⟨p, n, rfl, hp, hn, hq⟩ := hs
  refine ⟨_, (pss_cons (ps_set (i := 2) sc_law_row.nd rfl (Or.inl rfl) pe_str)
    (pss_cons (ps_for PassesOwn.never rfl (pi_range1 (by rfl) T.range (pa_cons (pv 1) pa_nil)) (pg_name (i := 3) sc_law_row.nd rfl (Or.inl rfl))
    (pss_one (ps_set (i := 2) sc_law_row.nd rfl (Or.inl rfl) (pe_op op_add_str (pv 2) (pe_ix ix_str pe_str (pe_callV (A_law_take.mono (by decide)) hr (by rfl) (pa_cons (pv 0) (pa_cons pe_int pa_nil))) (fun _ _ => rfl))))))
    (pss_one (ps_ret (pv 2))))), ?_⟩
  walk_at "go"
  refine for_range (n := n) (fun i σ H' => Exp p H H' ∧ Pu H' p ∧ ∃ (l : Bits) (t : Option V), l.length = i ∧ σ = [some (.ref p), some (.int n), some (.str (tx l)), t]) ⟨Exp.refl, hp, [], _, rfl, by rw [← txE]; rfl⟩ ?_ ?_
  · rintro i σ H1 hi ⟨e1, hp1, l, t, hl, rfl⟩
    walk_at "go"
    intro H2 d e2 hp2 hd0 hd1
    have x2 := e1.trans e2
    obtain ⟨b, hb⟩ : ∃ b : Bool, atI (Str.ofString "01").cps.toList d = some (sg b) := by
      rcases (by omega : d = 0 ∨ d = 1) with rfl | rfl
      · exact ⟨false, by decide⟩
      · exact ⟨true, by decide⟩
    refine ⟨_, _, sg b, rfl, rfl, short (Nat.le_of_ble_eq_true rfl), hb, ?_⟩
    walk_at "go"
    refine ⟨by rw [tx_len]; show l.length + 1 ≤ _; rw [sizeLine_eq]; omega, ?_⟩
    walk_at "go"
    refine ⟨l ++ [b], some (.int (0 + (i : Int))), by rw [List.length_append, hl]; rfl, ?_⟩
    rw [← tx_app]
    rfl
  · rintro σ H1 ⟨e1, hp1, l, t, hl, rfl⟩
    walk_at "go"
    exact hq H1 l e1 hp1 hl
/-- the columns' signs, side by side, hold all ways -/
def seenV (l m : Bits) : List V := (l.zip m).map fun q => V.str (tx [q.1, q.2])
def keepsB (x : Dm) (l m : Bits) : Bool := (ws x).all fun v => inV v (seenV l m)
theorem any_not (f : V → Bool) : ∀ vs : List V, (vs.map fun v => !f v).any id = !(vs.all f)
  | [] => rfl
  | v :: vs => by
    rw [List.map_cons, List.any_cons, List.all_cons, any_not f vs]
    cases f v <;> rfl
theorem seen_flat (l m : Bits) : (seenV l m).all flatV = true := by
  refine List.all_eq_true.mpr fun v hv => ?_
  obtain ⟨q, _, rfl⟩ := List.mem_map.mp hv
  rfl
theorem seen_len {l m : Bits} (h : l.length = m.length) : (seenV l m).length = m.length := by
  unfold seenV
  rw [List.length_map, List.length_zip, h, Nat.min_self]
theorem seen_at {l m : Bits} {j : Nat} (h1 : j < l.length) (h2 : j < m.length) : (seenV l m)[j]? = some (.str (tx [l[j], m[j]])) := by
  unfold seenV
  rw [List.getElem?_map, List.getElem?_eq_getElem (by rw [List.length_zip]; omega), List.getElem_zip]
  rfl
theorem ws_flatm {x : Dm} {v : V} (h : v ∈ ws x) : flatV v = true := List.all_eq_true.mp (ws_flat x) v h
def spFits : Sp := fun vs H Q _ => ∃ (a b : Addr) (x : Dm) (cs : List Bits) (l : Bits), vs = [.ref a, .str (tx l), .ref b] ∧ H a = some (.lst (rowsV cs)) ∧ H b = some (.lst (ws x)) ∧ (∀ c ∈ cs, c.length = l.length) ∧ l.length ≤ 1000 ∧
  ∀ H', Ext H H' → Q (.bl (cs.all fun c => keepsB x c l)) H'
theorem sc_law_fits : FnScope ["_law_columns", "_law_column", "_law_ways_here", "_law_one", "_law_seen", "_law_k", "_law_sign"] ["_law_columns", "_law_column", "_law_ways_here"] (defScope s_law_fits) := ⟨rfl, rfl, rfl, by decide +kernel, rfl, by decide +kernel, by decide +kernel⟩
theorem av_law_fits (T : Tx w K mg) (c : Tc K) (h : Here K mg "_law_fits" "_law_fits" s_law_fits) : Av P w K mg base "_law_fits" 1 ["_law_columns", "_law_column", "_law_ways_here"] spFits := by
  refine av_mk h sc_law_fits (fun _ _ _ _ _ _ us hl => match us, hl with | [_, _, _], _ => rfl) (fun vs H Q E hs => ?_) (fun f cdv A outer s H vs Q E hr hs => ?_)
  · obtain ⟨a, b, x, cs, l, rfl, _⟩ := hs
    rfl
  obtain ⟨a, b, x, cs, l, rfl, ha, hb, hlen, hl, hq⟩ := hs
  refine ⟨_, (pss_cons (ps_for PassesOwn.never rfl (pi_listK (K := K) rfl (pv 0)) (pg_name (i := 3) sc_law_fits.nd rfl (Or.inr rfl))
    (pss_cons (ps_set (i := 4) sc_law_fits.nd rfl (Or.inr rfl) (pe_lc (own := [("_law_k", 5)]) (g := gName 5) (by rfl) sc_law_fits.nd (pi_range1 (by rfl) T.range (pa_cons (pe_callB (call_lenK (K := K) rfl) (by rfl) T.len PySem.boot_len (pa_cons (pv 1) pa_nil)) pa_nil)) (blkOk_by (own := [("_law_k", 5)]) (N := ["_law_columns", "_law_column", "_law_ways_here", "_law_one", "_law_seen", "_law_k", "_law_sign"]) (sc := (defScope s_law_fits)) (by decide +kernel)) (fun _ _ _ _ _ => (pg_name (i := 5) sc_law_fits.nd rfl (Or.inl rfl))) (fun _ _ _ _ _ => pts_nil) (fun _ _ _ _ _ => (pe_op op_add_str (pe_ix ix_str (pv 3) (pv 5) (fun _ _ => rfl)) (pe_ix ix_str (pv 1) (pv 5) (fun _ _ => rfl))))))
    (pss_one (ps_if (pt_val (pe_callB (any_K (K := K) rfl rfl) (by rfl) T.any (by decide +kernel) (pa_cons (pe_lc (own := [("_law_sign", 6)]) (g := gName 6) (by rfl) sc_law_fits.nd (pi_listK (K := K) rfl (pv 2)) (blkOk_by (own := [("_law_sign", 6)]) (N := ["_law_columns", "_law_column", "_law_ways_here", "_law_one", "_law_seen", "_law_k", "_law_sign"]) (sc := (defScope s_law_fits)) (by decide +kernel)) (fun _ _ _ _ _ => (pg_name (i := 6) sc_law_fits.nd rfl (Or.inl rfl))) (fun _ _ _ _ _ => pts_nil) (fun _ _ _ _ _ => (pe_cmpR (op_notInK (K := K) rfl) (pv 6) (pv 4) (by rfl)))) pa_nil))) (pss_one (ps_ret pe_bl)) pss_nil))))
    (pss_one (ps_ret pe_bl))), ?_⟩
  have hL := sqL_of (K := K) ha
  have hW := sqL_of (K := K) hb
  have hz : l.length ≤ sizeLine := by rw [sizeLine_eq]; omega
  walk_at "go"
  try refine ⟨⟨_, hL⟩, ?_⟩
  refine for_it (walk_list (xs := rowsV cs)) (fun i σ H' => Ext H H' ∧ (cs.take i).all (fun c => keepsB x c l) = true ∧ ∃ u v : Option V, σ = [some (.ref a), some (.str (tx l)), some (.ref b), u, v, none, none]) ⟨Ext.refl, rfl, _, _, rfl⟩ (fun _ _ _ _ h => h.1.sqL hL) ?_ ?_
  · rintro i v σ H1 H2 hi ⟨e1, hall, u, w1, rfl⟩ ⟨rfl, hv⟩
    obtain ⟨cc, hcc, rfl⟩ := rowsV_at hv
    have hcl := hlen cc (List.mem_of_getElem? hcc)
    walk_at "go"
    intro D hD
    refine lc_pure walk_range (fun j => (seenV cc l).take j) hD (List.take_zero) (fun _ _ => trivial) (fun j hj => ?_) ?_ ?_
    · rw [List.length_take, sizeLine_eq]
      omega
    · rintro j v H3 H4 hj e3 ⟨rfl, rfl⟩ Ky K0 hy h0
      have hj2 : j < l.length := by omega
      have hj3 : j < cc.length := by omega
      refine ⟨rfl, ?_⟩
      walk_at "go"
      refine ⟨_, _, sg cc[j], rfl, rfl, by rw [tx_len, hcl]; exact hz, by rw [Int.zero_add]; exact at_tx hj3, ?_⟩
      walk_at "go"
      refine ⟨_, _, sg l[j], rfl, rfl, by rw [tx_len]; exact hz, by rw [Int.zero_add]; exact at_tx hj2, ?_⟩
      walk_at "go"
      refine hy _ _ Ext.refl ?_
      rw [take_next (seen_at hj3 hj2)]
      rfl
    · intro H3 e3 hD3
      rw [Int.toNat_natCast, ← seen_len hcl, List.take_of_length_le (Nat.le_refl _)] at hD3
      have hS := sqL_of (K := K) hD3
      have hW3 := (e1.trans e3).sqL hW
      walk_at "go"
      try refine ⟨⟨_, hW3⟩, ?_⟩
      intro D2 hD2
      refine lc_pure walk_list (fun j => ((ws x).take j).map fun v => V.bl (!inV v (seenV cc l))) hD2 rfl (fun _ e => e.sqL hW3) (fun j hj => ?_) ?_ ?_
      · have := ws_short x
        rw [List.length_map, List.length_take]
        have h4 := ws_len x
        have h5 := x.apart_le
        have h6 := x.same_le
        rw [sizeLine_eq]
        omega
      · rintro j v H4 H5 hj e4 ⟨rfl, hv⟩ Ky K0 hy h0
        refine ⟨rfl, ?_⟩
        walk_at "go"
        refine ⟨_, _, rfl, .inl (e4.sqL hS), ws_flat1 hv, seen_flat cc l, ?_⟩
        refine hy _ _ Ext.refl ?_
        rw [take_next hv, List.map_append]
        rfl
      · intro H4 e4 hD4
        rw [List.take_of_length_le (Nat.le_refl _)] at hD4
        refine ⟨D2, (ws x).map (fun v => !inV v (seenV cc l)), rfl, sqL_of (by rw [List.map_map]; exact hD4), ?_⟩
        rw [any_not]
        have e14 := (e1.trans e3).trans e4
        walk_at "go"
        have hkd : ((ws x).all fun v => inV v (seenV cc l)) = keepsB x cc l := rfl
        rw [hkd]
        cases hk : keepsB x cc l with
        | true =>
          walk_at "go"
          refine ⟨?_, _, _, rfl⟩
          rw [List.take_add_one, hcc, List.all_append, hall]
          show (true && (keepsB x cc l && true)) = true
          rw [hk]; rfl
        | false =>
          walk_at "go"
          have hf := hq H4 e14
          have : (cs.all fun c => keepsB x c l) = false := by
            refine List.all_eq_false.mpr ⟨cc, List.mem_of_getElem? hcc, ?_⟩
            rw [hk]; decide
          rw [this] at hf
          exact hf
  · rintro σ H1 ⟨e1, hall, u, w1, rfl⟩
    have hr : (rowsV cs).length = cs.length := List.length_map _
    rw [hr, List.take_of_length_le (Nat.le_refl _)] at hall
    have hf := hq H1 e1
    rw [hall] at hf
    walk_at "go"
    exact hf
end
end FwW
end
section
set_option Elab.async false
set_option linter.all false
set_option maxRecDepth 100000
set_option maxHeartbeats 4000000
namespace FwW
open PySem PySem.Spec PyProof.Rows L2 FwR FwH Fw
local macro_rules | `(tactic| walk_at "go") => `(tactic| (repeat (first | refine ⟨_, rfl, ?_⟩ | refine ⟨_, _, rfl, rfl, ?_⟩ | refine ⟨_, _, rfl, lenTx (by assumption), ?_⟩ | refine ⟨_, _, rfl, ?_⟩ | refine ⟨_, _, _, rfl, ?_⟩ | refine ⟨Or.inl ⟨by omega, by omega⟩, ?_⟩ | refine ⟨Or.inr ⟨by omega, by omega⟩, ?_⟩ | refine ⟨⟨by omega, by omega⟩, ?_⟩ | refine ⟨(rfl : ("str" : String) = "str"), ?_⟩ | refine ⟨_, _, rfl, sqT_new, rfl, ?_⟩ | refine ⟨_, _, rfl, sqT_of (by assumption), rfl, ?_⟩ | refine ⟨⟨_, rfl⟩, ?_⟩ | refine And.intro scS ?_ | refine And.intro scI ?_ | refine And.intro (short (Nat.le_of_ble_eq_true rfl)) ?_ | refine ⟨_, _, rfl, .inr (by assumption), rfl, ws_flat _, ?_⟩ | refine ⟨_, _, rfl, lenT (by assumption), ?_⟩ | refine ⟨_, _, rfl, lenL (by assumption), ?_⟩ | refine ⟨_, _, _, _, _, rfl, by assumption, Tc.dcls (by assumption), Tc.dkept (by assumption), rfl, ?_⟩ | refine .inl ⟨_, rfl, ?_⟩ | refine .inr ⟨_, rfl, ?_⟩ | refine And.intro (by omega) ?_ | refine ⟨_, _, _, _, _, rfl, .ty _, .base (.int _), kit_ii, ?_⟩ | refine ⟨_, _, _, _, _, rfl, .ty _, .base (.int _), kit_ib, ?_⟩ | refine ⟨_, _, _, _, _, rfl, .ty _, .base (.str _), kit_ss, ?_⟩ | refine ⟨_, _, _, _, _, rfl, .ty _, .base (.bl _), kit_bb, ?_⟩ | refine ⟨_, _, _, _, _, rfl, .ty _, ty_t (by assumption), kit_tt, ?_⟩ | refine iteT ?_ | refine iteF ?_ | refine niT ?_ | refine nsT ?_ | refine nrT ?_ | refine nnF ?_ | refine iiF ?_ | refine isF ?_ | refine irF ?_ | refine nnT ?_ | refine eT (by omega) ?_ | refine eF (by omega) ?_ | refine nT (by omega) ?_ | refine nF (by omega) ?_ | refine dT (by omega) ?_ | refine dF (by omega) ?_)))
section
variable {P : Program} {w : World} {K : PySem.W.Frag} {mg : Str → Option Value} {base : Heap}
def spKept : Sp := fun vs H Q _ => ∃ (p b : Addr) (x : Dm) (n t : Nat), vs = [.ref p, .ref b, .int n, .int t] ∧ Pu H p ∧ H b = some (.lst (ws x)) ∧ n ≤ 100 ∧ t ≤ 12 ∧
  ∀ H' a cs, Exp p H H' → Pu H' p → H' a = some (.lst (rowsV cs)) → (∀ c ∈ cs, c.length = n) → cs ≠ [] → cs.length ≤ t + 1 → cs.Pairwise (fun c l => keepsB x c l = true) → Q (.ref a) H'
theorem rowsV_app (cs : List Bits) (l : Bits) : rowsV (cs ++ [l]) = rowsV cs ++ [.str (tx l)] := by
  unfold rowsV
  rw [List.map_append]; rfl
theorem join_not (l : Bits) : Txt.join "" (l.map fun b => tx [!b]) = tx (l.map (!·)) := by
  have h := join_tx (l.map fun b => [!b])
  rw [List.map_map] at h
  have e : (l.map fun b => [!b]).flatten = l.map (!·) := by
    induction l with
    | nil => rfl
    | cons b l ih => exact congrArg ((!b) :: ·) (ih (by have := join_tx (l.map fun b => [!b]); rwa [List.map_map] at this))
  rw [e] at h
  exact h
theorem sum_not : ∀ l : Bits, ((l.map fun b => tx [!b]).map (·.length)).sum = l.length
  | [] => rfl
  | b :: l => by
    rw [List.map_cons, List.map_cons, List.sum_cons, sum_not l, tx_len]
    show 1 + l.length = l.length + 1
    omega
theorem last_at {cs : List Bits} (h : cs ≠ []) : atI (rowsV cs) (-1) = some (.str (tx (cs.getLast h))) := by
  have hp : 0 < cs.length := List.length_pos_iff.mpr h
  have hr : (rowsV cs).length = cs.length := List.length_map _
  unfold atI ixN
  rw [if_neg (by decide), if_pos (by omega), hr]
  show (rowsV cs)[(-1 + (cs.length : Int)).toNat]? = _
  rw [show (-1 + (cs.length : Int)).toNat = cs.length - 1 by omega]
  unfold rowsV
  rw [List.getElem?_map, List.getElem?_eq_getElem (by omega), List.getLast_eq_getElem]
  rfl
theorem rows_apart {H : Hp} {p a : Addr} {cs : List Bits} (hp : Pu H p) (ha : H a = some (.lst (rowsV cs))) : a ≠ p := by
  obtain ⟨c, s, h, _⟩ := hp
  refine ne_of ha h fun e => ?_
  have e2 := HO.lst.inj e
  cases cs with
  | nil => cases e2
  | cons l r => cases e2
theorem sc_law_kept : FnScope ["_law_purse_here", "_law_ways_here", "_law_deep", "_law_turns", "_law_found", "_law_turn", "_law_column", "_law_sign"] ["_law_purse_here", "_law_ways_here", "_law_deep", "_law_turns"] (defScope s_law_kept) := ⟨rfl, rfl, rfl, by decide +kernel, rfl, by decide +kernel, by decide +kernel⟩
theorem av_law_kept (T : Tx w K mg) (c : Tc K) (h : Here K mg "_law_kept" "_law_kept" s_law_kept) (A_law_row : Av P w K mg base "_law_row" 2 ["_law_purse_here", "_law_many"] spRow) (A_law_take : Av P w K mg base "_law_take" 1 ["_law_purse_here", "_law_many"] spTake) (A_law_fits : Av P w K mg base "_law_fits" 1 ["_law_columns", "_law_column", "_law_ways_here"] spFits) : Av P w K mg base "_law_kept" 3 ["_law_purse_here", "_law_ways_here", "_law_deep", "_law_turns"] spKept := by
  refine av_mk h sc_law_kept (fun _ _ _ _ _ _ us hl => match us, hl with | [_, _, _, _], _ => rfl) (fun vs H Q E hs => ?_) (fun f cdv A outer s H vs Q E hr hs => ?_)
  · obtain ⟨p, b, x, n, t, rfl, _⟩ := hs
    rfl
  obtain ⟨p, b, x, n, t, rfl, hp, hb, hn, ht, hq⟩ := hs
  refine ⟨_, (pss_cons (ps_set (i := 4) sc_law_kept.nd rfl (Or.inl rfl) (pe_lst (pa_cons (pe_callV (A_law_row.mono (by decide)) hr (by rfl) (pa_cons (pv 0) (pa_cons (pv 2) pa_nil))) pa_nil)))
    (pss_cons (ps_for PassesOwn.never rfl (pi_range1 (by rfl) T.range (pa_cons (pv 3) pa_nil)) (pg_name (i := 5) sc_law_kept.nd rfl (Or.inl rfl))
    (pss_cons (ps_set (i := 6) sc_law_kept.nd rfl (Or.inl rfl) (pe_callV (A_law_row.mono (by decide)) hr (by rfl) (pa_cons (pv 0) (pa_cons (pv 2) pa_nil))))
    (pss_cons (ps_if (pt_cmpR op_eq (pe_callV (A_law_take.mono (by decide)) hr (by rfl) (pa_cons (pv 0) (pa_cons pe_int pa_nil))) pe_int (nomark _)) (pss_one (ps_set (i := 6) sc_law_kept.nd rfl (Or.inl rfl) (pe_joinK (K := K) rfl pe_str (pe_lc (own := [("_law_sign", 7)]) (g := gName 7) (by rfl) sc_law_kept.nd (pi_str (pe_ix (ix_listK (K := K) rfl) (pv 4) (pe_un un_neg pe_int) (fun _ _ => rfl))) (blkOk_by (own := [("_law_sign", 7)]) (N := ["_law_purse_here", "_law_ways_here", "_law_deep", "_law_turns", "_law_found", "_law_turn", "_law_column", "_law_sign"]) (sc := (defScope s_law_kept)) (by decide +kernel)) (fun _ _ _ _ _ => (pg_name (i := 7) sc_law_kept.nd rfl (Or.inl rfl))) (fun _ _ _ _ _ => pts_nil) (fun _ _ _ _ _ => (pe_ifExp (pt_cmpR op_eq (pv 7) pe_str (nomark _)) pe_str pe_str)))))) pss_nil)
    (pss_one (ps_if (pt_val (pe_callV (A_law_fits.mono (by decide)) hr (by rfl) (pa_cons (pv 4) (pa_cons (pv 6) (pa_cons (pv 1) pa_nil))))) (pss_one (ps_expr (pe_bm PySem.F.plainAttrs_list PySem.F.slot_list_append PySem.F.type_list_append mt_append (pv 4) (pa_cons (pv 6) pa_nil)))) pss_nil)))))
    (pss_one (ps_ret (pv 4))))), ?_⟩
  have hbp := ws_apart hp hb
  walk_at "go"
  intro H1 l1 e1 hp1 hl1
  walk_at "go"
  intro f0 hf0
  have hfp := pu_new hp1 hf0
  have hfH : ∀ a o, a ≠ p → H a = some o → a ≠ f0 := fun a o n h e => by
    subst e
    rw [e1 a o n h] at hf0
    cases hf0
  have hp2 := (Ext.new (o := .lst [.str (tx l1)]) hf0).pu hp1
  have e2 : Exp p H (upd H1 f0 (.lst [.str (tx l1)])) := e1.trans (Ext.new hf0).exp
  have hf2 : upd H1 f0 (.lst [.str (tx l1)]) f0 = some (.lst [.str (tx l1)]) := upd_same
  generalize upd H1 f0 (.lst [.str (tx l1)]) = H2 at hp2 e2 hf2 ⊢
  walk_at "go"
  refine for_range (n := t) (fun i σ H' => Exp p H H' ∧ Pu H' p ∧ ∃ (cs : List Bits) (u v : Option V), H' f0 = some (.lst (rowsV cs)) ∧ (∀ c ∈ cs, c.length = n) ∧ cs ≠ [] ∧ cs.length ≤ i + 1 ∧ cs.Pairwise (fun c l => keepsB x c l = true) ∧
    σ = [some (.ref p), some (.ref b), some (.int n), some (.int t), some (.ref f0), u, v, none]) ⟨e2, hp2, [l1], _, _, hf2, fun c hc => by rw [List.mem_singleton.mp hc]; exact hl1, List.cons_ne_nil _ _, Nat.le_refl _, List.pairwise_singleton _ _, rfl⟩ ?_ ?_
  · rintro i σ H3 hi ⟨e3, hp3, cs, u, v, hf3, hcl, hne, hct, hpw, rfl⟩
    walk_at "go"
    intro H4 l4 e4 hp4 hl4
    have hf4 := e4 f0 _ hfp hf3
    have x4 := e3.trans e4
    walk_at "go"
    intro H5 d5 e5 hp5 hd50 hd51
    have hf5 := e5 f0 _ hfp hf4
    have x5 := x4.trans e5
    walk_at "go"
    have hb5 := x5 b _ hbp hb
    by_cases hd : d5 = 0
    · refine eT hd ?_
      walk_at "go"
      refine ⟨_, _, _, _, rfl, rfl, sqL_of hf5, last_at hne, ?_⟩
      have hll := hcl _ (List.getLast_mem hne)
      generalize cs.getLast hne = ll at hll
      walk_at "go"
      intro D hD
      refine lc_pure walk_str (fun j => (ll.take j).map fun b => V.str (tx [!b])) hD rfl (fun _ _ => trivial) (fun j hj => ?_) ?_ ?_
      · have hj2 : j < (tx ll).length := hj
        rw [tx_len] at hj2
        rw [List.length_map, List.length_take, sizeLine_eq]
        omega
      · rintro j v H6 H7 hj e6 ⟨rfl, cc, hcc, rfl⟩ Ky K0 hy h0
        have hj2 : j < ll.length := by
          have : j < (tx ll).length := hj
          rwa [tx_len] at this
        have hc2 : cc = sg ll[j] := by
          rw [tx_ix, List.getElem?_eq_getElem hj2] at hcc
          exact (Option.some.inj hcc).symm
        subst hc2
        have hst : ((ll.take (j + 1)).map fun b => V.str (tx [!b])) = ((ll.take j).map fun b => V.str (tx [!b])) ++ [V.str (tx [!ll[j]])] := by
          rw [List.take_add_one, List.getElem?_eq_getElem hj2, List.map_append]; rfl
        refine ⟨rfl, ?_⟩
        walk_at "go"
        rw [sg_zero]
        generalize ll[j] = b0 at hst
        cases b0 with
        | true =>
          walk_at "go"
          exact hy _ _ Ext.refl (by rw [hst, tx0]; rfl)
        | false =>
          walk_at "go"
          exact hy _ _ Ext.refl (by rw [hst, tx1]; rfl)
      · intro H6 e6 hD6
        have hz6 : (tx ll).cps.size = ll.length := tx_len ll
        rw [hz6, List.take_of_length_le (Nat.le_refl _)] at hD6
        have hf6 := e6 f0 _ hf5
        have hp6 := e6.pu hp5
        have hb6 := e6 b _ hb5
        have x6 := x5.trans (e6.exp (p := p))
        refine ⟨_, _, ll.map (fun b => tx [!b]), rfl, rfl, .inl (sqL_of (by rw [List.map_map]; exact hD6)), ?_, ?_⟩
        · rw [sum_not, List.length_map]
          show ll.length + ll.length * 0 ≤ _
          omega
        rw [join_not]
        have hlm : (ll.map (!·)).length = n := by rw [List.length_map]; exact hll
        generalize ll.map (!·) = l6 at hlm
        walk_at "go"
        refine ⟨f0, b, x, cs, l6, rfl, hf6, hb6, fun c hc => by rw [hcl c hc, hlm], by omega, fun H9 e9 => ?_⟩
        have hp9 := e9.pu hp6
        have x9 := (x6).trans (e9.exp (p := p))
        have hf9 := e9 f0 _ hf6
        walk_at "go"
        refine b2 (fun hk => ?_) (fun hk => ?_)
        · walk_at "go"
          refine ⟨.inl ⟨rfl, _, sqL_of hf9⟩, ?_⟩
          walk_at "go"
          refine ⟨f0, rowsV cs, _, rfl, rfl, hf9, by unfold rowsV; rw [List.length_map, sizeLine_eq]; omega, ?_⟩
          have xA : Exp p H (upd H9 f0 (.lst (rowsV cs ++ [.str (tx l6)]))) := fun a o n h => by
            rw [upd_ne (hfH a o n h)]
            exact x9 a o n h
          have hpA : Pu (upd H9 f0 (.lst (rowsV cs ++ [.str (tx l6)]))) p := by
            obtain ⟨q1, q2, q3, q4⟩ := hp9
            exact ⟨q1, q2, by rw [upd_ne (Ne.symm hfp)]; exact q3, q4⟩
          have hnew : upd H9 f0 (.lst (rowsV cs ++ [.str (tx l6)])) f0 = some (.lst (rowsV (cs ++ [l6]))) := by rw [rowsV_app]; exact upd_same
          walk_at "go"
          refine ⟨cs ++ [l6], _, _, hnew, fun c hc => ?_, by simp, by rw [List.length_append]; show cs.length + 1 ≤ _; omega, ?_, rfl⟩
          · rcases List.mem_append.mp hc with h | h
            · exact hcl c h
            · rw [List.mem_singleton.mp h]; exact hlm
          · refine List.pairwise_append.mpr ⟨hpw, List.pairwise_singleton _ _, fun c hc l hl => ?_⟩
            rw [List.mem_singleton.mp hl]
            exact List.all_eq_true.mp hk c hc
        · walk_at "go"
          exact ⟨cs, _, _, hf9, hcl, hne, by omega, hpw, rfl⟩
    · refine eF hd ?_
      walk_at "go"
      refine ⟨f0, b, x, cs, l4, rfl, hf5, hb5, fun c hc => by rw [hcl c hc, hl4], by omega, fun H9 e9 => ?_⟩
      have hp9 := e9.pu hp5
      have x9 := (x5).trans (e9.exp (p := p))
      have hf9 := e9 f0 _ hf5
      walk_at "go"
      refine b2 (fun hk => ?_) (fun hk => ?_)
      · walk_at "go"
        refine ⟨.inl ⟨rfl, _, sqL_of hf9⟩, ?_⟩
        walk_at "go"
        refine ⟨f0, rowsV cs, _, rfl, rfl, hf9, by unfold rowsV; rw [List.length_map, sizeLine_eq]; omega, ?_⟩
        have xA : Exp p H (upd H9 f0 (.lst (rowsV cs ++ [.str (tx l4)]))) := fun a o n h => by
          rw [upd_ne (hfH a o n h)]
          exact x9 a o n h
        have hpA : Pu (upd H9 f0 (.lst (rowsV cs ++ [.str (tx l4)]))) p := by
          obtain ⟨q1, q2, q3, q4⟩ := hp9
          exact ⟨q1, q2, by rw [upd_ne (Ne.symm hfp)]; exact q3, q4⟩
        have hnew : upd H9 f0 (.lst (rowsV cs ++ [.str (tx l4)])) f0 = some (.lst (rowsV (cs ++ [l4]))) := by rw [rowsV_app]; exact upd_same
        walk_at "go"
        refine ⟨cs ++ [l4], _, _, hnew, fun c hc => ?_, by simp, by rw [List.length_append]; show cs.length + 1 ≤ _; omega, ?_, rfl⟩
        · rcases List.mem_append.mp hc with h | h
          · exact hcl c h
          · rw [List.mem_singleton.mp h]; exact hl4
        · refine List.pairwise_append.mpr ⟨hpw, List.pairwise_singleton _ _, fun c hc l hl => ?_⟩
          rw [List.mem_singleton.mp hl]
          exact List.all_eq_true.mp hk c hc
      · walk_at "go"
        exact ⟨cs, _, _, hf9, hcl, hne, by omega, hpw, rfl⟩
  · rintro σ H3 ⟨e3, hp3, cs, u, v, hf3, hcl, hne, hct, hpw, rfl⟩
    walk_at "go"
    exact hq H3 f0 cs e3 hp3 hf3 hcl hne hct hpw
def spJudged (K : PySem.W.Frag) : Sp := fun vs H Q _ => ∃ (cl : Addr) (x : Dm) (k : Nat) (due : Bool), vs = [.ref cl, .non, .bl due] ∧ 1 ≤ k ∧ k ≤ limit ∧
  ((∃ t : Int, SqT K H cl [.str "fewest", .str (lineS x), .int k, .int t] ∧ due = decide (t = ((fewest x k : Nat) : Int)) ∧ ∀ H', Ext H H' → Q (.bl true) H') ∨
   (∃ i : Nat, SqT K H cl [.str "column", .str (lineS x), .int k, .int i, .str (tx (colV x k i))] ∧ due = true ∧ i < k ∧ ∀ H', Ext H H' → Q (.bl true) H'))
theorem sc_law_judged : FnScope ["_law_asked", "_law_paper", "_law_due", "_law_told"] ["_law_asked", "_law_paper", "_law_due"] (defScope s_law_judged) := ⟨rfl, rfl, rfl, by decide +kernel, rfl, by decide +kernel, by decide +kernel⟩
theorem av_law_judged (T : Tx w K mg) (c : Tc K) (h : Here K mg "_law_judged" "_law_judged" s_law_judged) (A_accepts : Av P w K mg base "accepts" 6 ["claim", "certificate"] (spAccepts K)) : Av P w K mg base "_law_judged" 7 ["_law_asked", "_law_paper", "_law_due"] (spJudged K) := by
  refine av_mk h sc_law_judged (fun _ _ _ _ _ _ us hl => match us, hl with | [_, _, _], _ => rfl) (fun vs H Q E hs => ?_) (fun f cdv A outer s H vs Q E hr hs => ?_)
  · obtain ⟨cl, x, k, due, rfl, _⟩ := hs
    rfl
  obtain ⟨cl, x, k, due, rfl, h1, hk, hs⟩ := hs
  refine ⟨_, (pss_cons (ps_set (i := 3) sc_law_judged.nd rfl (Or.inl rfl) (pe_callV (A_accepts.mono (by decide)) hr (by rfl) (pa_cons (pv 0) (pa_cons (pv 1) pa_nil))))
    (pss_one (ps_ret (pe_and (pe_callB (isi_K (K := K) rfl) (by rfl) T.isinstance (by decide +kernel) (pa_cons (pv 3) (pa_cons (pe_bltn (v := .ty "bool") (by rfl) T.bool_ (by decide +kernel) rfl) pa_nil))) (pe_one (pe_cmpR op_eq (pv 3) (pv 2) (nomark _))))))), ?_⟩
  walk_at "go"
  rcases hs with ⟨t, hC, rfl, hq⟩ | ⟨i, hC, rfl, hi, hq⟩
  · refine ⟨cl, x, k, rfl, h1, hk, .inl ⟨t, hC, fun H1 e1 => ?_⟩⟩
    walk_at "go"
    refine And.intro scB ?_
    rw [decide_eq_true rfl]
    exact hq H1 e1
  · refine ⟨cl, x, k, rfl, h1, hk, .inr ⟨i, hC, hi, fun H1 e1 => ?_⟩⟩
    walk_at "go"
    refine And.intro scB ?_
    rw [decide_eq_true rfl]
    exact hq H1 e1
end
end FwW
end
section
set_option Elab.async false
set_option linter.all false
set_option maxRecDepth 100000
set_option maxHeartbeats 1000000
namespace FwW
open PySem PySem.Spec PyProof.Rows L2 FwR FwH Fw
local macro_rules | `(tactic| walk_at "go") => `(tactic| (repeat (first | refine ⟨_, rfl, ?_⟩ | refine ⟨_, _, rfl, rfl, ?_⟩ | refine ⟨_, _, rfl, lenTx (by assumption), ?_⟩ | refine ⟨_, _, rfl, ?_⟩ | refine ⟨_, _, _, rfl, ?_⟩ | refine ⟨Or.inl ⟨by omega, by omega⟩, ?_⟩ | refine ⟨Or.inr ⟨by omega, by omega⟩, ?_⟩ | refine ⟨⟨by omega, by omega⟩, ?_⟩ | refine ⟨(rfl : ("str" : String) = "str"), ?_⟩ | refine ⟨_, _, rfl, sqT_new, rfl, ?_⟩ | refine ⟨_, _, rfl, sqT_of (by assumption), rfl, ?_⟩ | refine ⟨⟨_, rfl⟩, ?_⟩ | refine And.intro scS ?_ | refine And.intro scI ?_ | refine And.intro (short (Nat.le_of_ble_eq_true rfl)) ?_ | refine ⟨_, _, rfl, .inr (by assumption), rfl, ws_flat _, ?_⟩ | refine ⟨_, _, rfl, lenT (by assumption), ?_⟩ | refine ⟨_, _, rfl, lenL (by assumption), ?_⟩ | refine ⟨_, _, _, _, _, rfl, by assumption, Tc.dcls (by assumption), Tc.dkept (by assumption), rfl, ?_⟩ | refine .inl ⟨_, rfl, ?_⟩ | refine .inr ⟨_, rfl, ?_⟩ | refine And.intro (by omega) ?_ | refine ⟨_, _, _, _, _, rfl, .ty _, .base (.int _), kit_ii, ?_⟩ | refine ⟨_, _, _, _, _, rfl, .ty _, .base (.int _), kit_ib, ?_⟩ | refine ⟨_, _, _, _, _, rfl, .ty _, .base (.str _), kit_ss, ?_⟩ | refine ⟨_, _, _, _, _, rfl, .ty _, .base (.bl _), kit_bb, ?_⟩ | refine ⟨_, _, _, _, _, rfl, .ty _, ty_t (by assumption), kit_tt, ?_⟩ | refine iteT ?_ | refine iteF ?_ | refine niT ?_ | refine nsT ?_ | refine nrT ?_ | refine nnF ?_ | refine iiF ?_ | refine isF ?_ | refine irF ?_ | refine nnT ?_ | refine eT (by omega) ?_ | refine eF (by omega) ?_ | refine nT (by omega) ?_ | refine nF (by omega) ?_ | refine dT (by omega) ?_ | refine dF (by omega) ?_)))
section
variable {P : Program} {w : World} {K : PySem.W.Frag} {mg : Str → Option Value} {base : Heap}
theorem line_chars : ∀ x : Dm, ((lineS x).cps.toList.all fun c => decide (c < 128)) = true := by
  rintro ⟨a, b, c, d⟩
  cases a <;> cases b <;> cases c <;> cases d <;> decide +kernel
theorem lf_line (x : Dm) : Lf 0 300 (.str (lineS x)) := (lf_str (line_len x) fun c hc => of_decide_eq_true (List.all_eq_true.mp (line_chars x) c hc)).mono (by decide) (by decide)
theorem lf_few : Lf 0 300 (.str "fewest") := lf_str (by decide) (by decide)
theorem lf_col : Lf 0 300 (.str "column") := lf_str (by decide) (by decide)
theorem lf_k {k : Nat} (h : k ≤ limit) : Lf 0 300 (.int (k : Nat)) := (lf_nat h).mono (by decide) (by decide)
theorem few_lim (x : Dm) {k : Nat} (hk : k ≤ limit) : fewest x k ≤ limit := Nat.le_trans (fewest_le x hk) (by decide)
def dF3 (x : Dm) (k : Nat) : PyData := .tuple [.str "fewest", .str (lineS x), .int (k : Nat)]
def dF4 (x : Dm) (k t : Nat) : PyData := .tuple [.tuple [.str "fewest", .str (lineS x), .int (k : Nat), .int (t : Nat)], .none]
theorem rp_F3 {x : Dm} {k : Nat} (hk : k ≤ limit) : Rp (dF3 x k) := (lf_tup (n := 0) (m := 300) fun d hd => by
  rcases List.mem_cons.mp hd with rfl | hd
  · exact lf_few
  rcases List.mem_cons.mp hd with rfl | hd
  · exact lf_line x
  rcases List.mem_cons.mp hd with rfl | hd
  · exact lf_k hk
  cases hd).rp (by decide) (Nat.le_of_ble_eq_true rfl)
theorem rp_F4 {x : Dm} {k t : Nat} (hk : k ≤ limit) (ht : t ≤ limit) : Rp (dF4 x k t) := (lf_tup (n := 1) (m := 2000) fun d hd => by
  rcases List.mem_cons.mp hd with rfl | hd
  · refine (lf_tup (n := 0) (m := 300) fun d hd => ?_).mono (by decide) (Nat.le_of_ble_eq_true rfl)
    rcases List.mem_cons.mp hd with rfl | hd
    · exact lf_few
    rcases List.mem_cons.mp hd with rfl | hd
    · exact lf_line x
    rcases List.mem_cons.mp hd with rfl | hd
    · exact lf_k hk
    rcases List.mem_cons.mp hd with rfl | hd
    · exact lf_k ht
    cases hd
  rcases List.mem_cons.mp hd with rfl | hd
  · exact lf_none.mono (by decide) (by decide)
  cases hd).rp (by decide) (Nat.le_of_ble_eq_true rfl)
theorem dp_F4 {K : PySem.W.Frag} {H : Hp} {p q : Addr} {x : Dm} {k t : Nat} (hp : SqT K H p [.ref q, .non]) (hq : SqT K H q [.str "fewest", .str (lineS x), .int k, .int t]) : Dp K H (.ref p) (dF4 x k t) :=
  .tup hp (.cons (.tup hq (.cons (.str _) (.cons (.str _) (.cons (.int _) (.cons (.int _) .nil))))) (.cons .non .nil))
theorem dp_F3 {K : PySem.W.Frag} {H : Hp} {q : Addr} {x : Dm} {k : Nat} (hq : SqT K H q [.str "fewest", .str (lineS x), .int k]) : Dp K H (.ref q) (dF3 x k) :=
  .tup hq (.cons (.str _) (.cons (.str _) (.cons (.int _) .nil)))
def spToldF (K : PySem.W.Frag) : Sp := fun vs H Q _ => ∃ (a : Addr) (x : Dm) (k : Nat), vs = [.ref a, .str (lineS x), .int k] ∧ IsD K H a x ∧ 1 ≤ k ∧ k ≤ limit ∧ ∀ H', Ext H H' → Q (.int (fewest x k : Nat)) H'
theorem sc_law_told_fewest : FnScope ["_law_wish", "_law_line_here", "_law_many", "_law_told", "_law_asked", "_law_paper", "_law_least", "_law_other"] ["_law_wish", "_law_line_here", "_law_many"] (defScope s_law_told_fewest) := ⟨rfl, rfl, rfl, by decide +kernel, rfl, by decide +kernel, by decide +kernel⟩
theorem av_law_told_fewest (T : Tx w K mg) (c : Tc K) (A_certify_fewest : Av2 P w K mg base "certify_fewest" 5 ["demand", "switches"] ["switches", "demand"] (spCertF K)) (h : Here K mg "_law_told_fewest" "_law_told_fewest" s_law_told_fewest) (A_law_judged : Av P w K mg base "_law_judged" 7 ["_law_asked", "_law_paper", "_law_due"] (spJudged K)) (M_Demand_fewest : Mv P w K mg base (He.ma K (gD K) "fewest") 4 ["self", "switches"] (spDFewest K)) : AvG P w K mg base "_law_told_fewest" 8 ["_law_wish", "_law_line_here", "_law_many"] (spToldF K) := by
  refine avG_mk h sc_law_told_fewest (fun _ _ _ _ _ _ us hl => match us, hl with | [_, _, _], _ => rfl) (fun vs H Q E hs => ?_) (fun f cdv A outer s H vs Q E hgu hr hs => ?_)
  · obtain ⟨a, x, k, rfl, _⟩ := hs
    rfl
  obtain ⟨a, x, k, rfl, hD, h1, hk, hq⟩ := hs
  refine ⟨_, (pss_cons (ps_set (i := 3) sc_law_told_fewest.nd rfl (Or.inl rfl) (pe_callV (A_certify_fewest.av.mono (by decide)) hr (by rfl) (pa_cons (pv 0) (pa_cons (pv 2) pa_nil))))
    (pss_cons (ps_if (PW.pt (pw_or (pt_cmpR op_ne (pe_callB (cr_repr hgu hr.units) (by rfl) T.repr (by decide +kernel) (pa_cons (pe_callK2 (K := K) rfl (A_certify_fewest.mono (by decide)) hr (by rfl) (pk_cons (pv 2) (pk_cons (pv 0) pk_nil))) pa_nil)) (pe_callB (cr_repr hgu hr.units) (by rfl) T.repr (by decide +kernel) (pa_cons (pv 3) pa_nil)) (nomark _)) (pw_or1 (pt_not (pt_val (pe_callB (isi_K (K := K) rfl) (by rfl) T.isinstance (by decide +kernel) (pa_cons (pv 3) (pa_cons (pe_bltn (v := .ty "tuple") (by rfl) T.tuple_ (by decide +kernel) rfl) pa_nil)))))))) (pss_one (ps_ret pe_non)) pss_nil)
    (pss_cons (ps_asg (pv 3) (pg_tupK (K := K) (n := 2) rfl rfl (pgs_cons (pg_name (i := 4) sc_law_told_fewest.nd rfl (Or.inl rfl)) (pgs_cons (pg_name (i := 5) sc_law_told_fewest.nd rfl (Or.inl rfl)) pgs_nil))))
    (pss_cons (ps_if (PW.pt (pw_or (pt_not (pt_val (pe_callB (isi_K (K := K) rfl) (by rfl) T.isinstance (by decide +kernel) (pa_cons (pv 4) (pa_cons (pe_bltn (v := .ty "tuple") (by rfl) T.tuple_ (by decide +kernel) rfl) pa_nil))))) (pw_or (pt_cmpR op_ne (pe_callB (cr_repr hgu hr.units) (by rfl) T.repr (by decide +kernel) (pa_cons (pe_slice (sl_tupK (K := K) rfl) (pv 4) po_none (po_some pe_int)) pa_nil)) (pe_callB (cr_repr hgu hr.units) (by rfl) T.repr (by decide +kernel) (pa_cons (pe_tup (pa_cons pe_str (pa_cons (pv 1) (pa_cons (pv 2) pa_nil)))) pa_nil)) (nomark _)) (pw_or1 (pt_cmpR op_ne (pe_callB (call_lenK (K := K) rfl) (by rfl) T.len PySem.boot_len (pa_cons (pv 4) pa_nil)) pe_int (nomark _)))))) (pss_one (ps_ret pe_non)) pss_nil)
    (pss_cons (ps_set (i := 6) sc_law_told_fewest.nd rfl (Or.inl rfl) (pe_ix (ix_tupK (K := K) rfl) (pv 4) pe_int (fun _ _ => rfl)))
    (pss_cons (ps_if (PW.pt (pw_or (pt_cmp (pc_notN (pv 5))) (pw_or (pt_not (pt_val (pe_callB (isi_K (K := K) rfl) (by rfl) T.isinstance (by decide +kernel) (pa_cons (pv 6) (pa_cons (pe_bltn (v := .ty "int") (by rfl) T.int_ (by decide +kernel) rfl) pa_nil))))) (pw_or (pt_val (pe_callB (isi_K (K := K) rfl) (by rfl) T.isinstance (by decide +kernel) (pa_cons (pv 6) (pa_cons (pe_bltn (v := .ty "bool") (by rfl) T.bool_ (by decide +kernel) rfl) pa_nil)))) (pw_or1 (pt_cmpR op_lt (pv 6) pe_int (nomark _))))))) (pss_one (ps_ret pe_non)) pss_nil)
    (pss_cons (ps_if (PW.pt (pw_or (pt_not (pt_val (pe_callV (A_law_judged.mono (by decide)) hr (by rfl) (pa_cons (pv 4) (pa_cons pe_non (pa_cons pe_bl pa_nil)))))) (pw_or1 (pt_cmpR op_ne (pv 6) (pe_methV (K := K) rfl (pv 0) c.dcls c.dfew (M_Demand_fewest.mono (by decide)) hr (pa_cons (pv 2) pa_nil)) (nomark _))))) (pss_one (ps_ret pe_non)) pss_nil)
    (pss_cons (ps_for PassesOwn.never rfl (pi_listK (K := K) rfl (pe_lst (pa_cons (pe_op op_add (pv 6) pe_int) (pa_cons (pe_op op_sub (pv 6) pe_int) pa_nil)))) (pg_name (i := 7) sc_law_told_fewest.nd rfl (Or.inl rfl))
    (pss_one (ps_if (pt_not (pt_val (pe_callV (A_law_judged.mono (by decide)) hr (by rfl) (pa_cons (pe_tup (pa_cons pe_str (pa_cons (pv 1) (pa_cons (pv 2) (pa_cons (pv 7) pa_nil))))) (pa_cons pe_non (pa_cons pe_bl pa_nil)))))) (pss_one (ps_ret pe_non)) pss_nil)))
    (pss_one (ps_ret (pv 6))))))))))), ?_⟩
  obtain ⟨z, hR⟩ := (rp_F4 (x := x) hk (few_lim x hk)).z
  walk_at "go"
  refine ⟨a, x, k, rfl, hD, h1, hk, fun H1 p q e1 hp hq1 => ?_⟩
  have hD1 := e1.isD hD
  walk_at "go"
  refine ⟨rfl, a, x, k, rfl, hD1, h1, hk, fun H2 p2 q2 e2 hp2 hq2 => ?_⟩
  have e12 := e1.trans e2
  have hpA := e2.sqT hp
  have hqA := e2.sqT hq1
  refine ⟨_, _, rfl, dp_F4 hp2 hq2, hR.ok.1, hR.ok.2.1, hR.ok.2.2.1, hR.ok.2.2.2, ?_⟩
  rw [hR.eq]
  walk_at "go"
  refine ⟨_, _, rfl, dp_F4 hpA hqA, hR.ok.1, hR.ok.2.1, hR.ok.2.2.1, hR.ok.2.2.2, ?_⟩
  rw [hR.eq]
  walk_at "go"
  refine ntF rfl ?_
  walk_at "go"
  try refine ⟨_, _, rfl, hpA, rfl, ?_⟩
  walk_at "go"
  refine ⟨_, _, rfl, hqA, fun z => absurd (show HT.sIx 4 4 (some 3) = 4 from z.2) (by decide), fun _ l hl => ?_⟩
  have e3 := e12.trans (Ext.new (o := .tup (cutV [V.str "fewest", .str (lineS x), .int (k : Nat), .int (fewest x k : Nat)] none (some 3))) hl)
  have hqB := (Ext.new (o := .tup (cutV [V.str "fewest", .str (lineS x), .int (k : Nat), .int (fewest x k : Nat)] none (some 3))) hl).sqT hqA
  have hl3 : SqT K (upd H2 l (.tup (cutV [V.str "fewest", .str (lineS x), .int (k : Nat), .int (fewest x k : Nat)] none (some 3)))) l [.str "fewest", .str (lineS x), .int k] := sqT_new
  generalize upd H2 l (.tup (cutV [V.str "fewest", .str (lineS x), .int (k : Nat), .int (fewest x k : Nat)] none (some 3))) = H3 at e3 hqB hl3 ⊢
  obtain ⟨z3, hR3⟩ := (rp_F3 (x := x) hk).z
  refine ⟨_, _, rfl, dp_F3 hl3, hR3.ok.1, hR3.ok.2.1, hR3.ok.2.2.1, hR3.ok.2.2.2, ?_⟩
  rw [hR3.eq]
  walk_at "go"
  intro l2 hl2
  have e4 := e3.trans (Ext.new (o := .tup [.str "fewest", .str (lineS x), .int (k : Nat)]) hl2)
  have hqC := (Ext.new (o := .tup [.str "fewest", .str (lineS x), .int (k : Nat)]) hl2).sqT hqB
  have hl4 : SqT K (upd H3 l2 (.tup [.str "fewest", .str (lineS x), .int (k : Nat)])) l2 [.str "fewest", .str (lineS x), .int k] := sqT_new
  generalize upd H3 l2 (.tup [.str "fewest", .str (lineS x), .int (k : Nat)]) = H4 at e4 hqC hl4 ⊢
  refine ⟨_, _, rfl, dp_F3 hl4, hR3.ok.1, hR3.ok.2.1, hR3.ok.2.2.1, hR3.ok.2.2.2, ?_⟩
  rw [hR3.eq]
  walk_at "go"
  refine ntF rfl ?_
  clear hl3 hl4 hqA hqB hpA hp hq1 hp2 hq2
  walk_at "go"
  refine ⟨_, _, _, _, rfl, rfl, hqC, rfl, ?_⟩
  walk_at "go"
  refine ⟨q, x, k, true, rfl, h1, hk, .inl ⟨_, hqC, (decide_eq_true rfl).symm, fun H5 e5 => ?_⟩⟩
  have e45 := e4.trans e5
  have hD5 := e45.isD hD
  walk_at "go"
  obtain ⟨dx5, t5, hd5, _⟩ := id hD5
  refine ⟨_, _, _, rfl, hd5, rfl, ?_⟩
  walk_at "go"
  refine ⟨a, x, k, rfl, hD5, h1, hk, fun H6 e6 => ?_⟩
  have e46 := e45.trans e6
  walk_at "go"
  try refine nF rfl ?_
  walk_at "go"
  intro l3 hl3
  have e7 := e46.trans (Ext.new (o := .lst [.int ((fewest x k : Nat) + 1), .int ((fewest x k : Nat) - 1)]) hl3)
  have hL7 : SqL K (upd H6 l3 (.lst [.int ((fewest x k : Nat) + 1), .int ((fewest x k : Nat) - 1)])) l3 [.int ((fewest x k : Nat) + 1), .int ((fewest x k : Nat) - 1)] := sqL_new
  try dsimp (config := { proj := false, zeta := false }) only
  generalize upd H6 l3 (.lst [.int ((fewest x k : Nat) + 1), .int ((fewest x k : Nat) - 1)]) = H7 at e7 hL7 ⊢
  walk_at "go"
  try refine ⟨⟨_, hL7⟩, ?_⟩
  refine for_it walk_list (fun i σ H' => Ext H7 H' ∧ ∃ o : Option V, σ = [some (.ref a), some (.str (lineS x)), some (.int k), some (.ref p), some (.ref q), some .non, some (.int (fewest x k : Nat)), o]) ⟨Ext.refl, _, rfl⟩ (fun _ _ _ _ h => h.1.sqL hL7) ?_ ?_
  · rintro i v σ H8 H9 hi ⟨e8, o, rfl⟩ ⟨rfl, hv⟩
    obtain ⟨t, rfl, htn⟩ : ∃ t : Int, v = .int t ∧ t ≠ ((fewest x k : Nat) : Int) := by
      have hi2 : i < 2 := hi
      rcases (by omega : i = 0 ∨ i = 1) with rfl | rfl
      · cases hv
        exact ⟨_, rfl, by omega⟩
      · cases hv
        exact ⟨_, rfl, by omega⟩
    walk_at "go"
    intro l4 hl4
    have e9 := e8.trans (Ext.new (o := .tup [.str "fewest", .str (lineS x), .int (k : Nat), .int t]) hl4)
    have hT9 : SqT K (upd H9 l4 (.tup [.str "fewest", .str (lineS x), .int (k : Nat), .int t])) l4 [.str "fewest", .str (lineS x), .int k, .int t] := sqT_new
    generalize upd H9 l4 (.tup [.str "fewest", .str (lineS x), .int (k : Nat), .int t]) = H10 at e9 hT9 ⊢
    walk_at "go"
    refine ⟨l4, x, k, false, rfl, h1, hk, .inl ⟨t, hT9, (decide_eq_false htn).symm, fun H11 e11 => ?_⟩⟩
    have e10 := e9.trans e11
    walk_at "go"
    exact ⟨_, rfl⟩
  · rintro σ H8 ⟨e8, o, rfl⟩
    walk_at "go"
    exact hq H8 (e7.trans e8)
end
end FwW
end
section
set_option Elab.async false
set_option linter.all false
set_option maxRecDepth 100000
set_option maxHeartbeats 1000000
namespace FwW
open PySem PySem.Spec PyProof.Rows L2 FwR FwH Fw
local macro_rules | `(tactic| walk_at "go") => `(tactic| (repeat (first | refine ⟨_, rfl, ?_⟩ | refine ⟨_, _, rfl, rfl, ?_⟩ | refine ⟨_, _, rfl, lenTx (by assumption), ?_⟩ | refine ⟨_, _, rfl, ?_⟩ | refine ⟨_, _, _, rfl, ?_⟩ | refine ⟨Or.inl ⟨by omega, by omega⟩, ?_⟩ | refine ⟨Or.inr ⟨by omega, by omega⟩, ?_⟩ | refine ⟨⟨by omega, by omega⟩, ?_⟩ | refine ⟨(rfl : ("str" : String) = "str"), ?_⟩ | refine ⟨_, _, rfl, sqT_new, rfl, ?_⟩ | refine ⟨_, _, rfl, sqT_of (by assumption), rfl, ?_⟩ | refine ⟨⟨_, rfl⟩, ?_⟩ | refine And.intro scS ?_ | refine And.intro scI ?_ | refine And.intro (short (Nat.le_of_ble_eq_true rfl)) ?_ | refine ⟨_, _, rfl, .inr (by assumption), rfl, ws_flat _, ?_⟩ | refine ⟨_, _, rfl, lenT (by assumption), ?_⟩ | refine ⟨_, _, rfl, lenL (by assumption), ?_⟩ | refine ⟨_, _, _, _, _, rfl, by assumption, Tc.dcls (by assumption), Tc.dkept (by assumption), rfl, ?_⟩ | refine .inl ⟨_, rfl, ?_⟩ | refine .inr ⟨_, rfl, ?_⟩ | refine And.intro (by omega) ?_ | refine ⟨_, _, _, _, _, rfl, .ty _, .base (.int _), kit_ii, ?_⟩ | refine ⟨_, _, _, _, _, rfl, .ty _, .base (.int _), kit_ib, ?_⟩ | refine ⟨_, _, _, _, _, rfl, .ty _, .base (.str _), kit_ss, ?_⟩ | refine ⟨_, _, _, _, _, rfl, .ty _, .base (.bl _), kit_bb, ?_⟩ | refine ⟨_, _, _, _, _, rfl, .ty _, ty_t (by assumption), kit_tt, ?_⟩ | refine iteT ?_ | refine iteF ?_ | refine niT ?_ | refine nsT ?_ | refine nrT ?_ | refine nnF ?_ | refine iiF ?_ | refine isF ?_ | refine irF ?_ | refine nnT ?_ | refine eT (by omega) ?_ | refine eF (by omega) ?_ | refine nT (by omega) ?_ | refine nF (by omega) ?_ | refine dT (by omega) ?_ | refine dF (by omega) ?_)))
section
variable {P : Program} {w : World} {K : PySem.W.Frag} {mg : Str → Option Value} {base : Heap}
def dC4 (x : Dm) (k i : Nat) : PyData := .tuple [.str "column", .str (lineS x), .int (k : Nat), .int (i : Nat)]
def dC5 (x : Dm) (k i : Nat) (l : Bits) : PyData := .tuple [.tuple [.str "column", .str (lineS x), .int (k : Nat), .int (i : Nat), .str (tx l)], .none]
theorem rp_C4 {x : Dm} {k i : Nat} (hk : k ≤ limit) (hi : i ≤ limit) : Rp (dC4 x k i) := (lf_tup (n := 0) (m := 300) fun d hd => by
  rcases List.mem_cons.mp hd with rfl | hd
  · exact lf_col
  rcases List.mem_cons.mp hd with rfl | hd
  · exact lf_line x
  rcases List.mem_cons.mp hd with rfl | hd
  · exact lf_k hk
  rcases List.mem_cons.mp hd with rfl | hd
  · exact lf_k hi
  cases hd).rp (by decide) (Nat.le_of_ble_eq_true rfl)
theorem rp_C5 {x : Dm} {k i : Nat} {l : Bits} (hk : k ≤ limit) (hi : i ≤ limit) (hl : l.length ≤ 300) : Rp (dC5 x k i l) := (lf_tup (n := 1) (m := 2000) fun d hd => by
  rcases List.mem_cons.mp hd with rfl | hd
  · refine (lf_tup (n := 0) (m := 300) fun d hd => ?_).mono (by decide) (Nat.le_of_ble_eq_true rfl)
    rcases List.mem_cons.mp hd with rfl | hd
    · exact lf_col
    rcases List.mem_cons.mp hd with rfl | hd
    · exact lf_line x
    rcases List.mem_cons.mp hd with rfl | hd
    · exact lf_k hk
    rcases List.mem_cons.mp hd with rfl | hd
    · exact lf_k hi
    rcases List.mem_cons.mp hd with rfl | hd
    · exact lf_tx hl
    cases hd
  rcases List.mem_cons.mp hd with rfl | hd
  · exact lf_none.mono (by decide) (by decide)
  cases hd).rp (by decide) (Nat.le_of_ble_eq_true rfl)
theorem dp_C5 {K : PySem.W.Frag} {H : Hp} {p q : Addr} {x : Dm} {k i : Nat} {l : Bits} (hp : SqT K H p [.ref q, .non]) (hq : SqT K H q [.str "column", .str (lineS x), .int k, .int i, .str (tx l)]) : Dp K H (.ref p) (dC5 x k i l) :=
  .tup hp (.cons (.tup hq (.cons (.str _) (.cons (.str _) (.cons (.int _) (.cons (.int _) (.cons (.str _) .nil)))))) (.cons .non .nil))
theorem dp_C4 {K : PySem.W.Frag} {H : Hp} {q : Addr} {x : Dm} {k i : Nat} (hq : SqT K H q [.str "column", .str (lineS x), .int k, .int i]) : Dp K H (.ref q) (dC4 x k i) :=
  .tup hq (.cons (.str _) (.cons (.str _) (.cons (.int _) (.cons (.int _) .nil))))
theorem occ01 : ∀ x : Dm, (!(!(Builtin.Str.occurrences (lineS x) "01" 0 (lineS x).length 1).isEmpty)) = !x.b := by
  rintro ⟨a, b, c, d⟩
  cases a <;> cases b <;> cases c <;> cases d <;> decide +kernel
theorem occ10 : ∀ x : Dm, (!(!(Builtin.Str.occurrences (lineS x) "10" 0 (lineS x).length 1).isEmpty)) = !x.c := by
  rintro ⟨a, b, c, d⟩
  cases a <;> cases b <;> cases c <;> cases d <;> decide +kernel
theorem sign_is (b : Bool) : inV (.str ⟨#[sg b]⟩) [.str "0", .str "1"] = true := by cases b <;> decide
def spToldC (K : PySem.W.Frag) : Sp := fun vs H Q _ => ∃ (a : Addr) (x : Dm) (k i : Nat), vs = [.ref a, .str (lineS x), .int k, .int i, .int (fewest x k : Nat)] ∧ IsD K H a x ∧ 1 ≤ k ∧ k ≤ limit ∧ i < k ∧ ∀ H', Ext H H' → Q (.str (tx (colV x k i))) H'
theorem sc_law_told_column : FnScope ["_law_wish", "_law_line_here", "_law_many", "_law_at", "_law_least", "_law_told", "_law_asked", "_law_paper", "_law_text", "_law_is_free", "_law_sign"] ["_law_wish", "_law_line_here", "_law_many", "_law_at", "_law_least"] (defScope s_law_told_column) := ⟨rfl, rfl, rfl, by decide +kernel, rfl, by decide +kernel, by decide +kernel⟩
theorem av_law_told_column (T : Tx w K mg) (c : Tc K) (A_certify_column : Av2 P w K mg base "certify_column" 6 ["demand", "switches", "index"] ["index", "switches", "demand"] (spCertC K)) (h : Here K mg "_law_told_column" "_law_told_column" s_law_told_column) (A_law_judged : Av P w K mg base "_law_judged" 7 ["_law_asked", "_law_paper", "_law_due"] (spJudged K)) (M_Demand_place : Mv P w K mg base (He.ma K (gD K) "place") 5 ["self", "switches", "column"] (spDPlace K)) : AvG P w K mg base "_law_told_column" 8 ["_law_wish", "_law_line_here", "_law_many", "_law_at", "_law_least"] (spToldC K) := by
  refine avG_mk h sc_law_told_column (fun _ _ _ _ _ _ us hl => match us, hl with | [_, _, _, _, _], _ => rfl) (fun vs H Q E hs => ?_) (fun f cdv A outer s H vs Q E hgu hr hs => ?_)
  · obtain ⟨a, x, k, i, rfl, _⟩ := hs
    rfl
  obtain ⟨a, x, k, i, rfl, hD, h1, hk, hi, hq⟩ := hs
  refine ⟨_, (pss_cons (ps_set (i := 5) sc_law_told_column.nd rfl (Or.inl rfl) (pe_callV (A_certify_column.av.mono (by decide)) hr (by rfl) (pa_cons (pv 0) (pa_cons (pv 2) (pa_cons (pv 3) pa_nil)))))
    (pss_cons (ps_if (PW.pt (pw_or (pt_cmpR op_ne (pe_callB (cr_repr hgu hr.units) (by rfl) T.repr (by decide +kernel) (pa_cons (pe_callK2 (K := K) rfl (A_certify_column.mono (by decide)) hr (by rfl) (pk_cons (pv 3) (pk_cons (pv 2) (pk_cons (pv 0) pk_nil)))) pa_nil)) (pe_callB (cr_repr hgu hr.units) (by rfl) T.repr (by decide +kernel) (pa_cons (pv 5) pa_nil)) (nomark _)) (pw_or1 (pt_not (pt_val (pe_callB (isi_K (K := K) rfl) (by rfl) T.isinstance (by decide +kernel) (pa_cons (pv 5) (pa_cons (pe_bltn (v := .ty "tuple") (by rfl) T.tuple_ (by decide +kernel) rfl) pa_nil)))))))) (pss_one (ps_ret pe_non)) pss_nil)
    (pss_cons (ps_asg (pv 5) (pg_tupK (K := K) (n := 2) rfl rfl (pgs_cons (pg_name (i := 6) sc_law_told_column.nd rfl (Or.inl rfl)) (pgs_cons (pg_name (i := 7) sc_law_told_column.nd rfl (Or.inl rfl)) pgs_nil))))
    (pss_cons (ps_if (PW.pt (pw_or (pt_not (pt_val (pe_callB (isi_K (K := K) rfl) (by rfl) T.isinstance (by decide +kernel) (pa_cons (pv 6) (pa_cons (pe_bltn (v := .ty "tuple") (by rfl) T.tuple_ (by decide +kernel) rfl) pa_nil))))) (pw_or (pt_cmpR op_ne (pe_callB (cr_repr hgu hr.units) (by rfl) T.repr (by decide +kernel) (pa_cons (pe_slice (sl_tupK (K := K) rfl) (pv 6) po_none (po_some pe_int)) pa_nil)) (pe_callB (cr_repr hgu hr.units) (by rfl) T.repr (by decide +kernel) (pa_cons (pe_tup (pa_cons pe_str (pa_cons (pv 1) (pa_cons (pv 2) (pa_cons (pv 3) pa_nil))))) pa_nil)) (nomark _)) (pw_or1 (pt_cmpR op_ne (pe_callB (call_lenK (K := K) rfl) (by rfl) T.len PySem.boot_len (pa_cons (pv 6) pa_nil)) pe_int (nomark _)))))) (pss_one (ps_ret pe_non)) pss_nil)
    (pss_cons (ps_set (i := 8) sc_law_told_column.nd rfl (Or.inl rfl) (pe_ix (ix_tupK (K := K) rfl) (pv 6) pe_int (fun _ _ => rfl)))
    (pss_cons (ps_if (PW.pt (pw_or (pt_cmp (pc_notN (pv 7))) (pw_or (pt_not (pt_val (pe_callB (isi_K (K := K) rfl) (by rfl) T.isinstance (by decide +kernel) (pa_cons (pv 8) (pa_cons (pe_bltn (v := .ty "str") (by rfl) T.str_ (by decide +kernel) rfl) pa_nil))))) (pw_or1 (pt_cmpR op_ne (pe_callB (call_lenK (K := K) rfl) (by rfl) T.len PySem.boot_len (pa_cons (pv 8) pa_nil)) (pv 4) (nomark _)))))) (pss_one (ps_ret pe_non)) pss_nil)
    (pss_cons (ps_if (PW.pt (pw_or (pt_val (pe_callB (any_K (K := K) rfl rfl) (by rfl) T.any (by decide +kernel) (pa_cons (pe_lc (own := [("_law_sign", 10)]) (g := gName 10) (by rfl) sc_law_told_column.nd (pi_str (pv 8)) (blkOk_by (own := [("_law_sign", 10)]) (N := ["_law_wish", "_law_line_here", "_law_many", "_law_at", "_law_least", "_law_told", "_law_asked", "_law_paper", "_law_text", "_law_is_free", "_law_sign"]) (sc := (defScope s_law_told_column)) (by decide +kernel)) (fun _ _ _ _ _ => (pg_name (i := 10) sc_law_told_column.nd rfl (Or.inl rfl))) (fun _ _ _ _ _ => pts_nil) (fun _ _ _ _ _ => (pe_cmpR (op_notInK (K := K) rfl) (pv 10) (pe_lst (pa_cons pe_str (pa_cons pe_str pa_nil))) (by rfl)))) pa_nil))) (pw_or1 (pt_not (pt_val (pe_callV (A_law_judged.mono (by decide)) hr (by rfl) (pa_cons (pv 6) (pa_cons pe_non (pa_cons pe_bl pa_nil))))))))) (pss_one (ps_ret pe_non)) pss_nil)
    (pss_cons (ps_set (i := 9) sc_law_told_column.nd rfl (Or.inl rfl) (pe_and (pe_cmpR op_notIn_str pe_str (pv 1) (by rfl)) (pe_one (pe_cmpR op_notIn_str pe_str (pv 1) (by rfl)))))
    (pss_one (ps_ret (pe_ifExp (pt_cmpR op_eq (pe_methV (K := K) rfl (pv 0) c.dcls c.dpla (M_Demand_place.mono (by decide)) hr (pa_cons (pv 2) (pa_cons (pv 8) pa_nil))) (pe_ifExp (pt_val (pv 9)) pe_int (pv 3)) (nomark _)) (pv 8) pe_non))))))))))), ?_⟩
  have hlen : (colV x k i).length = fewest x k := colV_len hk hi
  have hlen2 := fewest_le x hk
  obtain ⟨z, hR⟩ := (rp_C5 (x := x) (l := colV x k i) hk (Nat.le_trans (Nat.le_of_lt hi) hk) (by omega)).z
  obtain ⟨z4, hR4⟩ := (rp_C4 (x := x) hk (Nat.le_trans (Nat.le_of_lt hi) hk)).z
  walk_at "go"
  refine ⟨a, x, k, i, rfl, hD, h1, hk, hi, fun H1 p q e1 hp hq1 => ?_⟩
  have hD1 := e1.isD hD
  walk_at "go"
  refine ⟨rfl, a, x, k, i, rfl, hD1, h1, hk, hi, fun H2 p2 q2 e2 hp2 hq2 => ?_⟩
  have e12 := e1.trans e2
  have hpA := e2.sqT hp
  have hqA := e2.sqT hq1
  refine ⟨_, _, rfl, dp_C5 hp2 hq2, hR.ok.1, hR.ok.2.1, hR.ok.2.2.1, hR.ok.2.2.2, ?_⟩
  rw [hR.eq]
  walk_at "go"
  refine ⟨_, _, rfl, dp_C5 hpA hqA, hR.ok.1, hR.ok.2.1, hR.ok.2.2.1, hR.ok.2.2.2, ?_⟩
  rw [hR.eq]
  walk_at "go"
  refine ntF rfl ?_
  walk_at "go"
  try refine ⟨_, _, rfl, hpA, rfl, ?_⟩
  walk_at "go"
  refine ⟨_, _, rfl, hqA, fun z => absurd (show HT.sIx 5 5 (some 4) = 5 from z.2) (by decide), fun _ l hl => ?_⟩
  have e3 := e12.trans (Ext.new (o := .tup (cutV [V.str "column", .str (lineS x), .int (k : Nat), .int (i : Nat), .str (tx (colV x k i))] none (some 4))) hl)
  have hqB := (Ext.new (o := .tup (cutV [V.str "column", .str (lineS x), .int (k : Nat), .int (i : Nat), .str (tx (colV x k i))] none (some 4))) hl).sqT hqA
  have hl3 : SqT K (upd H2 l (.tup (cutV [V.str "column", .str (lineS x), .int (k : Nat), .int (i : Nat), .str (tx (colV x k i))] none (some 4)))) l [.str "column", .str (lineS x), .int k, .int i] := sqT_new
  generalize upd H2 l (.tup (cutV [V.str "column", .str (lineS x), .int (k : Nat), .int (i : Nat), .str (tx (colV x k i))] none (some 4))) = H3 at e3 hqB hl3 ⊢
  refine ⟨_, _, rfl, dp_C4 hl3, hR4.ok.1, hR4.ok.2.1, hR4.ok.2.2.1, hR4.ok.2.2.2, ?_⟩
  rw [hR4.eq]
  walk_at "go"
  intro l2 hl2
  have e4 := e3.trans (Ext.new (o := .tup [.str "column", .str (lineS x), .int (k : Nat), .int (i : Nat)]) hl2)
  have hqC := (Ext.new (o := .tup [.str "column", .str (lineS x), .int (k : Nat), .int (i : Nat)]) hl2).sqT hqB
  have hl4 : SqT K (upd H3 l2 (.tup [.str "column", .str (lineS x), .int (k : Nat), .int (i : Nat)])) l2 [.str "column", .str (lineS x), .int k, .int i] := sqT_new
  generalize upd H3 l2 (.tup [.str "column", .str (lineS x), .int (k : Nat), .int (i : Nat)]) = H4 at e4 hqC hl4 ⊢
  refine ⟨_, _, rfl, dp_C4 hl4, hR4.ok.1, hR4.ok.2.1, hR4.ok.2.2.1, hR4.ok.2.2.2, ?_⟩
  rw [hR4.eq]
  walk_at "go"
  refine ntF rfl ?_
  clear hl3 hl4 hqA hqB hpA hp hq1 hp2 hq2 hR hR4
  have hz : (colV x k i).length ≤ sizeLine := by rw [sizeLine_eq]; omega
  walk_at "go"
  refine ⟨_, _, _, _, rfl, rfl, hqC, rfl, ?_⟩
  walk_at "go"
  intro D hD0
  refine lc_pure walk_str (fun j => (List.replicate j false).map V.bl) hD0 rfl (fun _ _ => trivial) (fun j hj => ?_) ?_ ?_
  · have hj2 : j < (tx (colV x k i)).length := hj
    rw [tx_len] at hj2
    rw [List.length_map, List.length_replicate]
    omega
  · rintro j v H5 H6 hj e5 ⟨rfl, cc, hcc, rfl⟩ Ky K0 hy h0
    have hj2 : j < (colV x k i).length := by
      have : j < (tx (colV x k i)).length := hj
      rwa [tx_len] at this
    have hc2 : cc = sg (colV x k i)[j] := by
      rw [tx_ix, List.getElem?_eq_getElem hj2] at hcc
      exact (Option.some.inj hcc).symm
    subst hc2
    refine ⟨rfl, ?_⟩
    walk_at "go"
    intro lp hlp
    refine ⟨_, _, rfl, .inl sqL_new, rfl, rfl, ?_⟩
    rw [sign_is]
    exact hy _ _ (Ext.new hlp) (by rw [List.replicate_succ', List.map_append]; rfl)
  · intro H5 e5 hD5
    refine ⟨_, _, rfl, sqL_of hD5, ?_⟩
    have hff : ∀ n : Nat, (List.replicate n false).any id = false := by
      intro n
      induction n with
      | zero => rfl
      | succ n ih => rw [List.replicate_succ, List.any_cons, ih]; rfl
    rw [hff]
    have hqD := e5.sqT hqC
    have e05 := e4.trans e5
    walk_at "go"
    refine ⟨q, x, k, true, rfl, h1, hk, .inr ⟨i, hqD, rfl, hi, fun H6 e6 => ?_⟩⟩
    have e06 := e05.trans e6
    have hD6 := e06.isD hD
    walk_at "go"
    rw [occ01]
    have hapd : x.apart = b2n x.b + b2n x.c := rfl
    cases hb : x.b with
    | true =>
      have ha0 : x.apart ≠ 0 := by rw [hapd, hb]; show 1 + _ ≠ 0; omega
      walk_at "go"
      obtain ⟨dx7, t7, hd7, _⟩ := id hD6
      refine ⟨_, _, _, rfl, hd7, rfl, ?_⟩
      walk_at "go"
      refine ⟨a, x, k, i, rfl, hD6, h1, hk, hi, fun H7 e7 => ?_⟩
      have e67 := e06.trans e7
      have hap : (if x.apart = 0 then 0 else i : Nat) = i := by rw [if_neg ha0]
      rw [hap]
      walk_at "go"
      exact hq H7 e67
    | false =>
      walk_at "go"
      rw [occ10]
      cases hcc : x.c with
      | true =>
        have ha0 : x.apart ≠ 0 := by rw [hapd, hb, hcc]; decide
        walk_at "go"
        obtain ⟨dx7, t7, hd7, _⟩ := id hD6
        refine ⟨_, _, _, rfl, hd7, rfl, ?_⟩
        walk_at "go"
        refine ⟨a, x, k, i, rfl, hD6, h1, hk, hi, fun H7 e7 => ?_⟩
        have e67 := e06.trans e7
        have hap : (if x.apart = 0 then 0 else i : Nat) = i := by rw [if_neg ha0]
        rw [hap]
        walk_at "go"
        exact hq H7 e67
      | false =>
        have ha0 : x.apart = 0 := by rw [hapd, hb, hcc]; rfl
        walk_at "go"
        obtain ⟨dx7, t7, hd7, _⟩ := id hD6
        refine ⟨_, _, _, rfl, hd7, rfl, ?_⟩
        walk_at "go"
        refine ⟨a, x, k, i, rfl, hD6, h1, hk, hi, fun H7 e7 => ?_⟩
        have e67 := e06.trans e7
        have hap : (if x.apart = 0 then 0 else i : Nat) = 0 := by rw [if_pos ha0]
        rw [hap]
        walk_at "go"
        exact hq H7 e67
end
end FwW
end
section
set_option Elab.async false
set_option linter.all false
set_option maxRecDepth 100000
set_option maxHeartbeats 1000000
namespace FwW
open PySem PySem.Spec PyProof.Rows L2 FwR FwH Fw
local macro_rules | `(tactic| walk_at "go") => `(tactic| (repeat (first | refine ⟨_, rfl, ?_⟩ | refine ⟨_, _, rfl, rfl, ?_⟩ | refine ⟨_, _, rfl, lenTx (by assumption), ?_⟩ | refine ⟨_, _, rfl, ?_⟩ | refine ⟨_, _, _, rfl, ?_⟩ | refine ⟨Or.inl ⟨by omega, by omega⟩, ?_⟩ | refine ⟨Or.inr ⟨by omega, by omega⟩, ?_⟩ | refine ⟨⟨by omega, by omega⟩, ?_⟩ | refine ⟨(rfl : ("str" : String) = "str"), ?_⟩ | refine ⟨_, _, rfl, sqT_new, rfl, ?_⟩ | refine ⟨_, _, rfl, sqT_of (by assumption), rfl, ?_⟩ | refine ⟨⟨_, rfl⟩, ?_⟩ | refine And.intro scS ?_ | refine And.intro scI ?_ | refine And.intro (short (Nat.le_of_ble_eq_true rfl)) ?_ | refine ⟨_, _, rfl, .inr (by assumption), rfl, ws_flat _, ?_⟩ | refine ⟨_, _, rfl, lenT (by assumption), ?_⟩ | refine ⟨_, _, rfl, lenL (by assumption), ?_⟩ | refine ⟨_, _, _, _, _, rfl, by assumption, Tc.dcls (by assumption), Tc.dkept (by assumption), rfl, ?_⟩ | refine .inl ⟨_, rfl, ?_⟩ | refine .inr ⟨_, rfl, ?_⟩ | refine And.intro (by omega) ?_ | refine ⟨_, _, _, _, _, rfl, .ty _, .base (.int _), kit_ii, ?_⟩ | refine ⟨_, _, _, _, _, rfl, .ty _, .base (.int _), kit_ib, ?_⟩ | refine ⟨_, _, _, _, _, rfl, .ty _, .base (.str _), kit_ss, ?_⟩ | refine ⟨_, _, _, _, _, rfl, .ty _, .base (.bl _), kit_bb, ?_⟩ | refine ⟨_, _, _, _, _, rfl, .ty _, ty_t (by assumption), kit_tt, ?_⟩ | refine iteT ?_ | refine iteF ?_ | refine niT ?_ | refine nsT ?_ | refine nrT ?_ | refine nnF ?_ | refine iiF ?_ | refine isF ?_ | refine irF ?_ | refine nnT ?_ | refine eT (by omega) ?_ | refine eF (by omega) ?_ | refine nT (by omega) ?_ | refine nF (by omega) ?_ | refine dT (by omega) ?_ | refine dF (by omega) ?_)))
section
variable {P : Program} {w : World} {K : PySem.W.Frag} {mg : Str → Option Value} {base : Heap}
theorem Exp.sqT {p : Addr} {H H' : Hp} {t : Addr} {xs : List V} (e : Exp p H H') (hp : Pu H p) (h : SqT K H t xs) : SqT K H' t xs := by
  obtain ⟨c, s, h1, _⟩ := hp
  rcases h with (h | ⟨o, h⟩) | h
  · exact .inl (.inl (e t _ (fun z => by subst z; rw [h] at h1; cases h1) h))
  · exact .inl (.inr ⟨o, e t _ (fun z => by subst z; rw [h] at h1; cases h1) h⟩)
  · exact .inr h
theorem Exp.isD {p : Addr} {H H' : Hp} {a : Addr} {x : Dm} (e : Exp p H H') (hp : Pu H p) (h : IsD K H a x) : IsD K H' a x := by
  obtain ⟨dx, t, h1, h2⟩ := h
  refine ⟨dx, t, ?_, e.sqT hp h2⟩
  obtain ⟨c, s, h3, _⟩ := hp
  exact e a _ (fun z => by subst z; rw [h1] at h3; cases h3) h1
theorem inSeen {l m : Bits} {a b : Bool} : inV (.str (tx [a, b])) (seenV l m) = true ↔ Shows l m a b := by
  unfold inV seenV Shows
  rw [List.any_map, List.any_eq_true]
  constructor
  · rintro ⟨⟨c, d⟩, hm, he⟩
    have h2 : (tx [c, d] == tx [a, b]) = true := he
    have h3 := tx_inj (eq_of_beq h2)
    cases h3
    exact hm
  · intro h
    refine ⟨(a, b), h, ?_⟩
    show (tx [a, b] == tx [a, b]) = true
    exact beq_self_eq_true _
theorem ws_has : ∀ x : Dm, ∀ v ∈ ws x, ∃ a b, v = .str (tx [a, b]) ∧ x.has a b = true := by
  rintro ⟨a, b, c, d⟩ v hv
  cases a <;> cases b <;> cases c <;> cases d <;> (simp [ws, wsL] at hv) <;> (rcases hv with rfl | rfl | rfl | rfl) <;> first
    | exact ⟨false, false, by decide, rfl⟩
    | exact ⟨false, true, by decide, rfl⟩
    | exact ⟨true, false, by decide, rfl⟩
    | exact ⟨true, true, by decide, rfl⟩
theorem has_ws : ∀ (x : Dm) (a b : Bool), x.has a b = true → V.str (tx [a, b]) ∈ ws x := by
  rintro ⟨xa, xb, xc, xd⟩ a b h
  cases a <;> cases b <;> cases xa <;> cases xb <;> cases xc <;> cases xd <;> first | (cases h; done) | decide
theorem keepsB_of {x : Dm} {l m : Bits} (h : Keeps x l m) : keepsB x l m = true := by
  refine List.all_eq_true.mpr fun v hv => ?_
  obtain ⟨a, b, rfl, hh⟩ := ws_has x v hv
  exact inSeen.mpr (h a b hh)
theorem keeps_of {x : Dm} {l m : Bits} (h : keepsB x l m = true) : Keeps x l m := fun a b hh => inSeen.mp (List.all_eq_true.mp h _ (has_ws x a b hh))
theorem cols_keep {x : Dm} {k i j : Nat} (hk : k ≤ limit) (hij : i < j) (hj : j < k) : keepsB x (colV x k i) (colV x k j) = true := by
  have hk1 : k ≠ 1 := by omega
  have e1 : colV x k i = col x (fewest x k) i := if_neg hk1
  have e2 : colV x k j = col x (fewest x k) j := if_neg hk1
  rw [e1, e2]
  exact keepsB_of fun a b h => col_shows hk hij hj a b h
def spTwo (K : PySem.W.Frag) : Sp := fun vs H Q _ => ∃ (p a b : Addr) (x : Dm) (k : Nat), vs = [.ref p, .ref a, .ref b, .int k, .int (fewest x k : Nat)] ∧ Pu H p ∧ IsD K H a x ∧ H b = some (.lst (ws x)) ∧ 2 ≤ k ∧ k ≤ limit ∧
  ∀ H', Exp p H H' → Pu H' p → Q (.bl true) H'
theorem sc_law_two_right : FnScope ["_law_purse_here", "_law_wish", "_law_ways_here", "_law_many", "_law_least", "_law_line_here", "_law_one", "_law_other", "_law_left", "_law_right_here", "_law_seen", "_law_k", "_law_sign"] ["_law_purse_here", "_law_wish", "_law_ways_here", "_law_many", "_law_least"] (defScope s_law_two_right) := ⟨rfl, rfl, rfl, by decide +kernel, rfl, by decide +kernel, by decide +kernel⟩
theorem av_law_two_right (T : Tx w K mg) (c : Tc K) (h : Here K mg "_law_two_right" "_law_two_right" s_law_two_right) (A_law_line : Av P w K mg base "_law_line" 1 ["_law_ways_here"] (spLine K)) (A_law_big : Av P w K mg base "_law_big" 2 ["_law_purse_here", "_law_many"] spBig) (A_law_take : Av P w K mg base "_law_take" 1 ["_law_purse_here", "_law_many"] spTake) (A_law_told_column : AvG P w K mg base "_law_told_column" 8 ["_law_wish", "_law_line_here", "_law_many", "_law_at", "_law_least"] (spToldC K)) : AvG P w K mg base "_law_two_right" 9 ["_law_purse_here", "_law_wish", "_law_ways_here", "_law_many", "_law_least"] (spTwo K) := by
  refine avG_mk h sc_law_two_right (fun _ _ _ _ _ _ us hl => match us, hl with | [_, _, _, _, _], _ => rfl) (fun vs H Q E hs => ?_) (fun f cdv A outer s H vs Q E hgu hr hs => ?_)
  · obtain ⟨p, a, b, x, k, rfl, _⟩ := hs
    rfl
  obtain ⟨p, a, b, x, k, rfl, hp, hD, hb, h2, hk, hq⟩ := hs
  refine ⟨_, (pss_cons (ps_set (i := 5) sc_law_two_right.nd rfl (Or.inl rfl) (pe_callV (A_law_line.mono (by decide)) hr (by rfl) (pa_cons (pv 2) pa_nil)))
    (pss_cons (ps_set (i := 6) sc_law_two_right.nd rfl (Or.inl rfl) (pe_callV (A_law_big.mono (by decide)) hr (by rfl) (pa_cons (pv 0) (pa_cons (pe_op op_sub (pv 3) pe_int) pa_nil))))
    (pss_cons (ps_set (i := 7) sc_law_two_right.nd rfl (Or.inl rfl) (pe_op op_add (pe_op op_add (pv 6) pe_int) (pe_ifExp (pt_cmpR op_eq (pe_callV (A_law_take.mono (by decide)) hr (by rfl) (pa_cons (pv 0) (pa_cons pe_int pa_nil))) pe_int (nomark _)) (pe_callV (A_law_big.mono (by decide)) hr (by rfl) (pa_cons (pv 0) (pa_cons (pe_op op_sub (pe_op op_sub (pv 3) pe_int) (pv 6)) pa_nil))) pe_int)))
    (pss_cons (ps_asg (pe_tup (pa_cons (pe_callG (A_law_told_column.mono (by decide)) hgu hr (by rfl) (pa_cons (pv 1) (pa_cons (pv 5) (pa_cons (pv 3) (pa_cons (pv 6) (pa_cons (pv 4) pa_nil)))))) (pa_cons (pe_callG (A_law_told_column.mono (by decide)) hgu hr (by rfl) (pa_cons (pv 1) (pa_cons (pv 5) (pa_cons (pv 3) (pa_cons (pv 7) (pa_cons (pv 4) pa_nil)))))) pa_nil))) (pg_tupK (K := K) (n := 2) rfl rfl (pgs_cons (pg_name (i := 8) sc_law_two_right.nd rfl (Or.inr rfl)) (pgs_cons (pg_name (i := 9) sc_law_two_right.nd rfl (Or.inr rfl)) pgs_nil))))
    (pss_cons (ps_if (PW.pt (pw_or (pt_cmp (pc_isN (pv 8))) (pw_or1 (pt_cmp (pc_isN (pv 9)))))) (pss_one (ps_ret pe_bl)) pss_nil)
    (pss_cons (ps_set (i := 10) sc_law_two_right.nd rfl (Or.inr rfl) (pe_lc (own := [("_law_k", 11)]) (g := gName 11) (by rfl) sc_law_two_right.nd (pi_range1 (by rfl) T.range (pa_cons (pv 4) pa_nil)) (blkOk_by (own := [("_law_k", 11)]) (N := ["_law_purse_here", "_law_wish", "_law_ways_here", "_law_many", "_law_least", "_law_line_here", "_law_one", "_law_other", "_law_left", "_law_right_here", "_law_seen", "_law_k", "_law_sign"]) (sc := (defScope s_law_two_right)) (by decide +kernel)) (fun _ _ _ _ _ => (pg_name (i := 11) sc_law_two_right.nd rfl (Or.inl rfl))) (fun _ _ _ _ _ => pts_nil) (fun _ _ _ _ _ => (pe_op op_add_str (pe_ix ix_str (pv 8) (pv 11) (fun _ _ => rfl)) (pe_ix ix_str (pv 9) (pv 11) (fun _ _ => rfl))))))
    (pss_one (ps_ret (pe_callB (all_K (K := K) rfl rfl) (by rfl) T.all (by decide +kernel) (pa_cons (pe_lc (own := [("_law_sign", 12)]) (g := gName 12) (by rfl) sc_law_two_right.nd (pi_listK (K := K) rfl (pv 2)) (blkOk_by (own := [("_law_sign", 12)]) (N := ["_law_purse_here", "_law_wish", "_law_ways_here", "_law_many", "_law_least", "_law_line_here", "_law_one", "_law_other", "_law_left", "_law_right_here", "_law_seen", "_law_k", "_law_sign"]) (sc := (defScope s_law_two_right)) (by decide +kernel)) (fun _ _ _ _ _ => (pg_name (i := 12) sc_law_two_right.nd rfl (Or.inl rfl))) (fun _ _ _ _ _ => pts_nil) (fun _ _ _ _ _ => (pe_cmpR (op_inK (K := K) rfl) (pv 12) (pv 10) (by rfl)))) pa_nil)))))))))), ?_⟩
  have hbp := ws_apart hp hb
  have hL := sqL_of (K := K) hb
  walk_at "go"
  refine ⟨b, x, rfl, hL, fun H1 e1 => ?_⟩
  have hp1 := e1.pu hp
  have x1 := e1.exp (p := p)
  walk_at "go"
  intro H2 d1 e2 hp2 hd10 hd11
  have x2 := x1.trans e2
  walk_at "go"
  intro H3 d3 e3 hp3 hd30 hd31
  have x3 := x2.trans e3
  obtain ⟨i, rfl⟩ : ∃ i : Nat, d1 = i := ⟨d1.toNat, by omega⟩
  walk_at "go"
  by_cases hd3 : d3 = 0
  · refine eT hd3 ?_
    walk_at "go"
    intro H4 d4 e4 hp4 hd40 hd41
    have x4 := x3.trans e4
    obtain ⟨j, hj⟩ : ∃ j : Nat, (i : Int) + 1 + d4 = j := ⟨i + 1 + d4.toNat, by omega⟩
    walk_at "go"
    try dsimp (config := { proj := false, zeta := false }) only
    rw [hj]
    have hij : i < j := by omega
    have hjk : j < k := by omega
    clear hj hd40 hd41
    have hD4 := x4.isD hp hD
    walk_at "go"
    refine ⟨a, x, k, i, rfl, hD4, by omega, hk, by omega, fun H5 e5 => ?_⟩
    have hp5 := e5.pu hp4
    have x5 := x4.trans (e5.exp (p := p))
    walk_at "go"
    refine ⟨a, x, k, j, rfl, e5.isD hD4, by omega, hk, hjk, fun H6 e6 => ?_⟩
    have hp6 := e6.pu hp5
    have x6 := x5.trans (e6.exp (p := p))
    have hli : (colV x k i).length = fewest x k := colV_len hk (by omega)
    have hlj : (colV x k j).length = fewest x k := colV_len hk hjk
    have hkp := cols_keep (x := x) hk hij hjk
    have hN := fewest_le x hk
    have hL6 := sqL_of (K := K) (x6 b _ hbp hb)
    generalize colV x k i = cl at hli hkp ⊢
    generalize colV x k j = cr at hlj hkp ⊢
    generalize fewest x k = N at hli hlj hN ⊢
    have hz : cl.length ≤ sizeLine := by rw [sizeLine_eq]; omega
    have hz2 : cr.length ≤ sizeLine := by rw [sizeLine_eq]; omega
    walk_at "go"
    intro q9 hq9
    have e9 : Ext H6 (upd H6 q9 (.tup [.str (tx cl), .str (tx cr)])) := Ext.new hq9
    replace hp6 := e9.pu hp6
    replace x6 := x6.trans (e9.exp (p := p))
    replace hL6 := e9.sqL hL6
    walk_at "go"
    generalize upd H6 q9 (.tup [.str (tx cl), .str (tx cr)]) = H6' at hp6 x6 hL6 ⊢
    intro D hD0
    refine lc_pure walk_range (fun j => (seenV cl cr).take j) hD0 (List.take_zero) (fun _ _ => trivial) (fun j hj => ?_) ?_ ?_
    · rw [List.length_take, sizeLine_eq]
      omega
    · rintro j2 v H7 H8 hj e7 ⟨rfl, rfl⟩ Ky K0 hy h0
      have hj2 : j2 < cl.length := by omega
      have hj3 : j2 < cr.length := by omega
      refine ⟨rfl, ?_⟩
      walk_at "go"
      refine ⟨_, _, sg cl[j2], rfl, rfl, by rw [tx_len]; exact hz, by rw [Int.zero_add]; exact at_tx hj2, ?_⟩
      walk_at "go"
      refine ⟨_, _, sg cr[j2], rfl, rfl, by rw [tx_len]; exact hz2, by rw [Int.zero_add]; exact at_tx hj3, ?_⟩
      walk_at "go"
      refine hy _ _ Ext.refl ?_
      rw [take_next (seen_at hj2 hj3)]
      rfl
    · intro H7 e7 hD7
      rw [Int.toNat_natCast, show N = (seenV cl cr).length by rw [seen_len (by omega)]; exact hlj.symm, List.take_of_length_le (Nat.le_refl _)] at hD7
      have hS := sqL_of (K := K) hD7
      have hW7 := e7.sqL hL6
      have hp7 := e7.pu hp6
      have x7 := x6.trans (e7.exp (p := p))
      walk_at "go"
      try refine ⟨⟨_, hW7⟩, ?_⟩
      intro D2 hD2
      refine lc_pure walk_list (fun j => ((ws x).take j).map fun v => V.bl (inV v (seenV cl cr))) hD2 rfl (fun _ e => e.sqL hW7) (fun j hj => ?_) ?_ ?_
      · rw [List.length_map, List.length_take]
        have h4 := ws_len x
        have h5 := x.apart_le
        have h6 := x.same_le
        rw [sizeLine_eq]
        omega
      · rintro j2 v H8 H9 hj e8 ⟨rfl, hv⟩ Ky K0 hy h0
        refine ⟨rfl, ?_⟩
        walk_at "go"
        refine ⟨_, _, rfl, .inl (e8.sqL hS), ws_flat1 hv, seen_flat cl cr, ?_⟩
        refine hy _ _ Ext.refl ?_
        rw [take_next hv, List.map_append]
        rfl
      · intro H8 e8 hD8
        rw [List.take_of_length_le (Nat.le_refl _)] at hD8
        refine ⟨D2, (ws x).map (fun v => inV v (seenV cl cr)), rfl, sqL_of (by rw [List.map_map]; exact hD8), ?_⟩
        have hall : ((ws x).map fun v => inV v (seenV cl cr)).all id = true := by
          rw [List.all_map]
          exact hkp
        rw [hall]
        exact hq H8 (x7.trans (e8.exp (p := p))) (e8.pu hp7)
  · refine eF hd3 ?_
    walk_at "go"
    obtain ⟨j, hj⟩ : ∃ j : Nat, (i : Int) + 1 + 0 = j := ⟨i + 1, by omega⟩
    try dsimp (config := { proj := false, zeta := false }) only
    rw [hj]
    have hij : i < j := by omega
    have hjk : j < k := by omega
    have hp4 := hp3
    have x4 := x3
    generalize H3 = H4 at hp4 x4 ⊢
    clear hj
    have hD4 := x4.isD hp hD
    walk_at "go"
    refine ⟨a, x, k, i, rfl, hD4, by omega, hk, by omega, fun H5 e5 => ?_⟩
    have hp5 := e5.pu hp4
    have x5 := x4.trans (e5.exp (p := p))
    walk_at "go"
    refine ⟨a, x, k, j, rfl, e5.isD hD4, by omega, hk, hjk, fun H6 e6 => ?_⟩
    have hp6 := e6.pu hp5
    have x6 := x5.trans (e6.exp (p := p))
    have hli : (colV x k i).length = fewest x k := colV_len hk (by omega)
    have hlj : (colV x k j).length = fewest x k := colV_len hk hjk
    have hkp := cols_keep (x := x) hk hij hjk
    have hN := fewest_le x hk
    have hL6 := sqL_of (K := K) (x6 b _ hbp hb)
    generalize colV x k i = cl at hli hkp ⊢
    generalize colV x k j = cr at hlj hkp ⊢
    generalize fewest x k = N at hli hlj hN ⊢
    have hz : cl.length ≤ sizeLine := by rw [sizeLine_eq]; omega
    have hz2 : cr.length ≤ sizeLine := by rw [sizeLine_eq]; omega
    walk_at "go"
    intro q9 hq9
    have e9 : Ext H6 (upd H6 q9 (.tup [.str (tx cl), .str (tx cr)])) := Ext.new hq9
    replace hp6 := e9.pu hp6
    replace x6 := x6.trans (e9.exp (p := p))
    replace hL6 := e9.sqL hL6
    walk_at "go"
    generalize upd H6 q9 (.tup [.str (tx cl), .str (tx cr)]) = H6' at hp6 x6 hL6 ⊢
    intro D hD0
    refine lc_pure walk_range (fun j => (seenV cl cr).take j) hD0 (List.take_zero) (fun _ _ => trivial) (fun j hj => ?_) ?_ ?_
    · rw [List.length_take, sizeLine_eq]
      omega
    · rintro j2 v H7 H8 hj e7 ⟨rfl, rfl⟩ Ky K0 hy h0
      have hj2 : j2 < cl.length := by omega
      have hj3 : j2 < cr.length := by omega
      refine ⟨rfl, ?_⟩
      walk_at "go"
      refine ⟨_, _, sg cl[j2], rfl, rfl, by rw [tx_len]; exact hz, by rw [Int.zero_add]; exact at_tx hj2, ?_⟩
      walk_at "go"
      refine ⟨_, _, sg cr[j2], rfl, rfl, by rw [tx_len]; exact hz2, by rw [Int.zero_add]; exact at_tx hj3, ?_⟩
      walk_at "go"
      refine hy _ _ Ext.refl ?_
      rw [take_next (seen_at hj2 hj3)]
      rfl
    · intro H7 e7 hD7
      rw [Int.toNat_natCast, show N = (seenV cl cr).length by rw [seen_len (by omega)]; exact hlj.symm, List.take_of_length_le (Nat.le_refl _)] at hD7
      have hS := sqL_of (K := K) hD7
      have hW7 := e7.sqL hL6
      have hp7 := e7.pu hp6
      have x7 := x6.trans (e7.exp (p := p))
      walk_at "go"
      try refine ⟨⟨_, hW7⟩, ?_⟩
      intro D2 hD2
      refine lc_pure walk_list (fun j => ((ws x).take j).map fun v => V.bl (inV v (seenV cl cr))) hD2 rfl (fun _ e => e.sqL hW7) (fun j hj => ?_) ?_ ?_
      · rw [List.length_map, List.length_take]
        have h4 := ws_len x
        have h5 := x.apart_le
        have h6 := x.same_le
        rw [sizeLine_eq]
        omega
      · rintro j2 v H8 H9 hj e8 ⟨rfl, hv⟩ Ky K0 hy h0
        refine ⟨rfl, ?_⟩
        walk_at "go"
        refine ⟨_, _, rfl, .inl (e8.sqL hS), ws_flat1 hv, seen_flat cl cr, ?_⟩
        refine hy _ _ Ext.refl ?_
        rw [take_next hv, List.map_append]
        rfl
      · intro H8 e8 hD8
        rw [List.take_of_length_le (Nat.le_refl _)] at hD8
        refine ⟨D2, (ws x).map (fun v => inV v (seenV cl cr)), rfl, sqL_of (by rw [List.map_map]; exact hD8), ?_⟩
        have hall : ((ws x).map fun v => inV v (seenV cl cr)).all id = true := by
          rw [List.all_map]
          exact hkp
        rw [hall]
        exact hq H8 (x7.trans (e8.exp (p := p))) (e8.pu hp7)
end
end FwW
end
section
set_option Elab.async false
set_option linter.all false
set_option maxRecDepth 100000
set_option maxHeartbeats 4000000
namespace FwW
open PySem PySem.Spec PyProof.Rows L2 FwR FwH Fw
local macro_rules | `(tactic| walk_at "go") => `(tactic| (repeat (first | refine ⟨_, rfl, ?_⟩ | refine ⟨_, _, rfl, rfl, ?_⟩ | refine ⟨_, _, rfl, lenTx (by assumption), ?_⟩ | refine ⟨_, _, rfl, ?_⟩ | refine ⟨_, _, _, rfl, ?_⟩ | refine ⟨Or.inl ⟨by omega, by omega⟩, ?_⟩ | refine ⟨Or.inr ⟨by omega, by omega⟩, ?_⟩ | refine ⟨⟨by omega, by omega⟩, ?_⟩ | refine ⟨(rfl : ("str" : String) = "str"), ?_⟩ | refine ⟨_, _, rfl, sqT_new, rfl, ?_⟩ | refine ⟨_, _, rfl, sqT_of (by assumption), rfl, ?_⟩ | refine ⟨⟨_, rfl⟩, ?_⟩ | refine And.intro scS ?_ | refine And.intro scI ?_ | refine And.intro (short (Nat.le_of_ble_eq_true rfl)) ?_ | refine ⟨_, _, rfl, .inr (by assumption), rfl, ws_flat _, ?_⟩ | refine ⟨_, _, rfl, lenT (by assumption), ?_⟩ | refine ⟨_, _, rfl, lenL (by assumption), ?_⟩ | refine ⟨_, _, _, _, _, rfl, by assumption, Tc.dcls (by assumption), Tc.dkept (by assumption), rfl, ?_⟩ | refine .inl ⟨_, rfl, ?_⟩ | refine .inr ⟨_, rfl, ?_⟩ | refine And.intro (by omega) ?_ | refine ⟨_, _, _, _, _, rfl, .ty _, .base (.int _), kit_ii, ?_⟩ | refine ⟨_, _, _, _, _, rfl, .ty _, .base (.int _), kit_ib, ?_⟩ | refine ⟨_, _, _, _, _, rfl, .ty _, .base (.str _), kit_ss, ?_⟩ | refine ⟨_, _, _, _, _, rfl, .ty _, .base (.bl _), kit_bb, ?_⟩ | refine ⟨_, _, _, _, _, rfl, .ty _, ty_t (by assumption), kit_tt, ?_⟩ | refine iteT ?_ | refine iteF ?_ | refine niT ?_ | refine nsT ?_ | refine nrT ?_ | refine nnF ?_ | refine iiF ?_ | refine isF ?_ | refine irF ?_ | refine nnT ?_ | refine eT (by omega) ?_ | refine eF (by omega) ?_ | refine nT (by omega) ?_ | refine nF (by omega) ?_ | refine dT (by omega) ?_ | refine dF (by omega) ?_)))
section
variable {P : Program} {w : World} {K : PySem.W.Frag} {mg : Str → Option Value} {base : Heap}
theorem cols_back {x : Dm} {s i : Nat} (hs : s ≤ limit) (hi : i < s) : (rowsOf ((List.range s).map (colV x s)) (fewest x s)).map (fun r => r.getD i false) = colV x s i := by
  have hlen : (colV x s i).length = fewest x s := colV_len hs hi
  refine List.ext_getElem (by rw [List.length_map, rowsOf_len, hlen]) fun j h1 h2 => ?_
  have hj : j < fewest x s := by rwa [List.length_map, rowsOf_len] at h1
  rw [List.getElem_map]
  unfold rowsOf
  rw [List.getElem_map, List.getElem_range, List.getD_eq_getElem?_getD, List.getElem?_map, List.getElem?_map, List.getElem?_range hi]
  show (colV x s i).getD j false = _
  rw [List.getD_eq_getElem?_getD, List.getElem?_eq_getElem h2]
  rfl
theorem cols_at {x : Dm} {s i : Nat} (hs : s ≤ limit) (hi : i < s) : atI (colsV s (rowsOf ((List.range s).map (colV x s)) (fewest x s))) (i : Int) = some (.str (tx (colV x s i))) := by
  unfold colsV
  rw [at_nat (by rw [List.length_map, List.length_range]; exact hi), List.getElem?_map, List.getElem?_range hi]
  show some (V.str (tx ((rowsOf ((List.range s).map (colV x s)) (fewest x s)).map fun r => r.getD i false))) = _
  rw [cols_back hs hi]
def spRight : Sp := fun vs H Q _ => ∃ p : Addr, vs = [.ref p] ∧ Pu H p ∧ ∀ H', Exp p H H' → Q (.bl true) H'
theorem sc_law_right : FnScope ["_law_purse_here", "_law_ways_here", "_law_line_here", "_law_many", "_law_wish", "_law_least", "_law_small", "_law_at", "_law_text", "_law_deep", "_law_columns"] ["_law_purse_here"] (defScope s_law_right) := ⟨rfl, rfl, rfl, by decide +kernel, rfl, by decide +kernel, by decide +kernel⟩
theorem av_law_right (T : Tx w K mg) (c : Tc K) (h : Here K mg "_law_right" "_law_right" s_law_right) (A_law_ways : Av P w K mg base "_law_ways" 1 ["_law_number"] spWaysL) (A_law_take : Av P w K mg base "_law_take" 1 ["_law_purse_here", "_law_many"] spTake) (A_law_some_many : Av P w K mg base "_law_some_many" 4 ["_law_purse_here", "_law_ways_here"] spSomeMany) (A_law_line : Av P w K mg base "_law_line" 1 ["_law_ways_here"] (spLine K)) (M_Demand_read : Mv P w K mg base (FwK.recAd K "classmethod" (gD K) "read") 7 ["cls", "text"] (spRead K)) (A_law_told_fewest : AvG P w K mg base "_law_told_fewest" 8 ["_law_wish", "_law_line_here", "_law_many"] (spToldF K)) (A_law_told_column : AvG P w K mg base "_law_told_column" 8 ["_law_wish", "_law_line_here", "_law_many", "_law_at", "_law_least"] (spToldC K)) (A_law_two_right : AvG P w K mg base "_law_two_right" 9 ["_law_purse_here", "_law_wish", "_law_ways_here", "_law_many", "_law_least"] (spTwo K)) (M_Plan_columns : Mv P w K mg base (FwK.recAd K "property" (gP K) "columns") 1 ["self"] (spPCols K)) (M_Plan_best : Mv P w K mg base (FwK.recAd K "classmethod" (gP K) "best") 7 ["cls", "demand", "switches"] (spPBest K)) (A_law_kept : Av P w K mg base "_law_kept" 3 ["_law_purse_here", "_law_ways_here", "_law_deep", "_law_turns"] spKept) : AvG P w K mg base "_law_right" 10 ["_law_purse_here"] spRight := by
  refine avG_mk h sc_law_right (fun _ _ _ _ _ _ us hl => match us, hl with | [_], _ => rfl) (fun vs H Q E hs => ?_) (fun f cdv A outer s H vs Q E hgu hr hs => ?_)
  · obtain ⟨p, rfl, _⟩ := hs
    rfl
  obtain ⟨p, rfl, hp, hq⟩ := hs
  refine ⟨_, (pss_cons (ps_set (i := 1) sc_law_right.nd rfl (Or.inl rfl) (pe_callV (A_law_ways.mono (by decide)) hr (by rfl) (pa_cons (pe_callV (A_law_take.mono (by decide)) hr (by rfl) (pa_cons (pv 0) (pa_cons pe_int pa_nil))) pa_nil)))
    (pss_cons (ps_par (i := 2) (j := 3) rfl sc_law_right.nd rfl rfl (by decide) rfl rfl (pa_cons (pe_callV (A_law_line.mono (by decide)) hr (by rfl) (pa_cons (pv 1) pa_nil)) (pa_cons (pe_callV (A_law_some_many.mono (by decide)) hr (by rfl) (pa_cons (pv 0) (pa_cons (pv 1) pa_nil))) pa_nil)) rfl)
    (pss_cons (ps_set (i := 4) sc_law_right.nd rfl (Or.inl rfl) (pe_cmethV (K := K) rfl (by rfl) T.Demand c.drr c.drm (M_Demand_read.mono (by decide)) hr (pa_cons (pv 2) pa_nil)))
    (pss_cons (ps_set (i := 5) sc_law_right.nd rfl (Or.inl rfl) (pe_callG (A_law_told_fewest.mono (by decide)) hgu hr (by rfl) (pa_cons (pv 4) (pa_cons (pv 2) (pa_cons (pv 3) pa_nil)))))
    (pss_cons (ps_if (PW.pt (pw_or (pt_cmp (pc_isN (pv 5))) (pw_or1 (pt_cmp (pc_isN (pe_callG (A_law_told_column.mono (by decide)) hgu hr (by rfl) (pa_cons (pv 4) (pa_cons (pv 2) (pa_cons (pv 3) (pa_cons (pe_op op_sub (pv 3) pe_int) (pa_cons (pv 5) pa_nil))))))))))) (pss_one (ps_ret pe_bl)) pss_nil)
    (pss_cons (ps_if (PW.pt (pw_and (pt_cmpR op_gt (pv 3) pe_int (nomark _)) (pw_and1 (pt_not (pt_val (pe_callG (A_law_two_right.mono (by decide)) hgu hr (by rfl) (pa_cons (pv 0) (pa_cons (pv 4) (pa_cons (pv 1) (pa_cons (pv 3) (pa_cons (pv 5) pa_nil))))))))))) (pss_one (ps_ret pe_bl)) pss_nil)
    (pss_cons (ps_set (i := 6) sc_law_right.nd rfl (Or.inl rfl) (pe_op op_add pe_int (pe_callV (A_law_take.mono (by decide)) hr (by rfl) (pa_cons (pv 0) (pa_cons pe_int pa_nil)))))
    (pss_cons (ps_par (i := 5) (j := 7) rfl sc_law_right.nd rfl rfl (by decide) rfl rfl (pa_cons (pe_callG (A_law_told_fewest.mono (by decide)) hgu hr (by rfl) (pa_cons (pv 4) (pa_cons (pv 2) (pa_cons (pv 6) pa_nil)))) (pa_cons (pe_callV (A_law_take.mono (by decide)) hr (by rfl) (pa_cons (pv 0) (pa_cons (pv 6) pa_nil))) pa_nil)) rfl)
    (pss_cons (ps_if (pt_cmp (pc_isN (pv 5))) (pss_one (ps_ret pe_bl)) pss_nil)
    (pss_cons (ps_set (i := 8) sc_law_right.nd rfl (Or.inl rfl) (pe_callG (A_law_told_column.mono (by decide)) hgu hr (by rfl) (pa_cons (pv 4) (pa_cons (pv 2) (pa_cons (pv 6) (pa_cons (pv 7) (pa_cons (pv 5) pa_nil)))))))
    (pss_cons (ps_if (PW.pt (pw_or (pt_cmp (pc_isN (pv 8))) (pw_or1 (pt_cmpR op_ne (pe_ix (ix_tupK (K := K) rfl) (pe_propV (K := K) rfl (pe_cmethV (K := K) rfl (by rfl) T.Plan c.pbr c.pbm (M_Plan_best.mono (by decide)) hr (pa_cons (pv 4) (pa_cons (pv 6) pa_nil))) c.pcls c.pcp M_Plan_columns (hr.mono (by decide))) (pv 7) (fun _ _ => rfl)) (pv 8) (nomark _))))) (pss_one (ps_ret pe_bl)) pss_nil)
    (pss_cons (ps_set (i := 9) sc_law_right.nd rfl (Or.inl rfl) (pe_callV (A_law_take.mono (by decide)) hr (by rfl) (pa_cons (pv 0) (pa_cons pe_int pa_nil))))
    (pss_cons (ps_set (i := 10) sc_law_right.nd rfl (Or.inl rfl) (pe_callV (A_law_kept.mono (by decide)) hr (by rfl) (pa_cons (pv 0) (pa_cons (pv 1) (pa_cons (pv 9) (pa_cons pe_int pa_nil))))))
    (pss_cons (ps_set (i := 5) sc_law_right.nd rfl (Or.inl rfl) (pe_callG (A_law_told_fewest.mono (by decide)) hgu hr (by rfl) (pa_cons (pv 4) (pa_cons (pv 2) (pa_cons (pe_callB (call_lenK (K := K) rfl) (by rfl) T.len PySem.boot_len (pa_cons (pv 10) pa_nil)) pa_nil)))))
    (pss_one (ps_ret (pe_and (pe_cmp (pc_notN (pv 5))) (pe_one (pe_cmpR op_le (pv 5) (pv 9) (nomark _)))))))))))))))))))), ?_⟩
  walk_at "go"
  intro H1 d1 e1 hp1 hd10 hd11
  obtain ⟨n, rfl⟩ : ∃ n : Nat, d1 = n := ⟨d1.toNat, by omega⟩
  walk_at "go"
  intro H2 b e2 hb2
  generalize bitsD n = x at hb2
  have hp2 := e2.pu hp1
  have x2 := e1.trans (e2.exp (p := p))
  have hbp := ws_apart hp2 hb2
  walk_at "go"
  first | (refine ⟨b, x, rfl, sqL_of hb2, ?_⟩; intro H3 e3) | intro H3 e3
  have hp3 := e3.pu hp2
  have hb3 := e3 _ _ hb2
  have x3 := x2.trans (e3.exp (p := p))
  walk_at "go"
  first | (refine ⟨p, b, x, rfl, hp3, hb3, ?_⟩; intro H4 m e4 hp4 hm1 hm2) | intro H4 m e4 hp4 hm1 hm2
  obtain ⟨k, rfl⟩ : ∃ k : Nat, m = k := ⟨m.toNat, by omega⟩
  have hk : k ≤ limit := by show k ≤ 10 ^ 40; exact_mod_cast hm2
  have hb4 := e4 _ _ hbp hb3
  have x4 := x3.trans e4
  walk_at "go"
  intro H5 o e5 ho5
  have hp5 := e5.pu hp4
  have hb5 := e5 _ _ hb4
  have x5 := x4.trans (e5.exp (p := p))
  walk_at "go"
  first | (refine ⟨o, x, k, rfl, ho5, by omega, hk, ?_⟩; intro H6 e6) | intro H6 e6
  have ho6 := e6.isD ho5
  have hp6 := e6.pu hp5
  have hb6 := e6 _ _ hb5
  have x6 := x5.trans (e6.exp (p := p))
  walk_at "go"
  first | (refine ⟨o, x, k, k - 1, by rw [show ((k - 1 : Nat) : Int) = (k : Int) - 1 by omega], ho6, by omega, hk, by omega, ?_⟩; intro H7 e7) | intro H7 e7
  have ho7 := e7.isD ho6
  have hp7 := e7.pu hp6
  have hb7 := e7 _ _ hb6
  have x7 := x6.trans (e7.exp (p := p))
  walk_at "go"
  refine d2 (fun hk1 => ?_) (fun hk1 => ?_)
  · walk_at "go"
    first | (refine ⟨p, o, b, x, k, rfl, hp7, ho7, hb7, by omega, hk, ?_⟩; intro H8 e8 hp8) | intro H8 e8 hp8
    have ho8 := e8.isD hp7 ho7
    have hb8 := e8 _ _ hbp hb7
    have x8 := x7.trans e8
    try clear e8
    clear e7 x7 hb7 ho7 hp7
    clear e1 hp1 hd10 hd11 e2 hp2 hb2 x2 e3 hp3 hb3 x3 e4 hp4 hm1 hm2 hb4 x4 e5 ho5 hp5 hb5 x5 e6 ho6 hp6 hb6 x6
    walk_at "go"
    intro H9 d9 e9 hp9 h90 h91
    have ho9 := e9.isD hp8 ho8
    have hb9 := e9 _ _ hbp hb8
    have x9 := x8.trans e9
    obtain ⟨s, hs⟩ : ∃ s : Nat, (1 : Int) + d9 = s := ⟨1 + d9.toNat, by omega⟩
    have hs1 : 1 ≤ s := by omega
    have hs64 : s ≤ 64 := by omega
    have hslim : s ≤ limit := Nat.le_trans hs64 (by decide)
    walk_at "go"
    try dsimp (config := { proj := false, zeta := false }) only
    rw [hs]
    first | (refine ⟨o, x, s, rfl, ho9, hs1, hslim, ?_⟩; intro H10 e10) | intro H10 e10
    have ho10 := e10.isD ho9
    have hp10 := e10.pu hp9
    have hb10 := e10 _ _ hb9
    have x10 := x9.trans (e10.exp (p := p))
    walk_at "go"
    intro H11 d11 e11 hp11 h110 h111
    have ho11 := e11.isD hp10 ho10
    have hb11 := e11 _ _ hbp hb10
    have x11 := x10.trans e11
    obtain ⟨i, rfl⟩ : ∃ i : Nat, d11 = i := ⟨d11.toNat, by omega⟩
    have his : i < s := by omega
    walk_at "go"
    first | (refine ⟨o, x, s, i, rfl, ho11, hs1, hslim, his, ?_⟩; intro H12 e12) | intro H12 e12
    have ho12 := e12.isD ho11
    have hp12 := e12.pu hp11
    have hb12 := e12 _ _ hb11
    have x12 := x11.trans (e12.exp (p := p))
    walk_at "go"
    first | (refine ⟨o, x, s, rfl, ho12, hs1, hs64, ?_⟩; intro H13 pl e13 hpl) | intro H13 pl e13 hpl
    have ho13 := e13.isD ho12
    have hp13 := e13.pu hp12
    have hb13 := e13 _ _ hb12
    have x13 := x12.trans (e13.exp (p := p))
    clear e9 e10 e11 e12 hp9 hp10 hp11 hp12 ho9 ho10 ho11 ho12 hb9 hb10 hb11 hb12 x8 x9 x10 x11 x12 h90 h91 h110 h111 hs
    obtain ⟨dxp, tp, hpl1, hpl2⟩ := id hpl
    refine ⟨_, _, _, rfl, hpl1, ?_⟩
    first | (refine ⟨pl, s, _, rfl, hpl, hs64, by rw [rowsOf_len]; exact fewest_64 x hs64, fun r hr => by rw [rowsOf_each r hr, List.length_map, List.length_range], ?_⟩; intro H14 pc e14 hpc) | intro H14 pc e14 hpc
    have ho14 := e14.isD ho13
    have hp14 := e14.pu hp13
    have hb14 := e14 _ _ hb13
    have x14 := x13.trans (e14.exp (p := p))
    walk_at "go"
    refine ⟨_, _, _, _, rfl, rfl, hpc, cols_at hslim his, ?_⟩
    generalize colV x s i = cl0
    clear hpc
    walk_at "go"
    refine ntF rfl ?_
    walk_at "go"
    intro H15 d15 e15 hp15 h150 h151
    have ho15 := e15.isD hp14 ho14
    have hb15 := e15 _ _ hbp hb14
    have x15 := x14.trans e15
    obtain ⟨dn, rfl⟩ : ∃ dn : Nat, d15 = dn := ⟨d15.toNat, by omega⟩
    walk_at "go"
    first | (refine ⟨p, b, x, dn, 12, rfl, hp15, hb15, by omega, Nat.le_refl _, ?_⟩; intro H16 a cs e16 hp16 ha hcl hne hct hpw) | intro H16 a cs e16 hp16 ha hcl hne hct hpw
    have ho16 := e16.isD hp15 ho15
    have x16 := x15.trans e16
    have hLa := sqL_of (K := K) ha
    have hkp := fewest_kept (x := x) (N := dn) (by omega) hcl (by omega) (hpw.imp fun h => keeps_of h)
    have hlr : (rowsV cs).length = cs.length := List.length_map _
    have hpos : 0 < cs.length := List.length_pos_iff.mpr hne
    walk_at "go"
    rw [hlr]
    first | (refine ⟨o, x, cs.length, rfl, ho16, hpos, Nat.le_trans hct (by decide), ?_⟩; intro H17 e17) | (refine ⟨Nat.le_trans hct (by decide), ?_⟩; intro H17 e17)
    walk_at "go"
    show Q (.bl (decide (((fewest x cs.length : Nat) : Int) ≤ (dn : Int)))) H17
    rw [decide_eq_true (by omega)]
    exact hq H17 (x16.trans (e17.exp (p := p)))
  · have hp8 := hp7
    have ho8 := ho7
    have hb8 := hb7
    have x8 := x7
    generalize H7 = H8 at hp8 ho8 hb8 x8 ⊢
    try clear e8
    clear e7 x7 hb7 ho7 hp7
    clear e1 hp1 hd10 hd11 e2 hp2 hb2 x2 e3 hp3 hb3 x3 e4 hp4 hm1 hm2 hb4 x4 e5 ho5 hp5 hb5 x5 e6 ho6 hp6 hb6 x6
    walk_at "go"
    intro H9 d9 e9 hp9 h90 h91
    have ho9 := e9.isD hp8 ho8
    have hb9 := e9 _ _ hbp hb8
    have x9 := x8.trans e9
    obtain ⟨s, hs⟩ : ∃ s : Nat, (1 : Int) + d9 = s := ⟨1 + d9.toNat, by omega⟩
    have hs1 : 1 ≤ s := by omega
    have hs64 : s ≤ 64 := by omega
    have hslim : s ≤ limit := Nat.le_trans hs64 (by decide)
    walk_at "go"
    try dsimp (config := { proj := false, zeta := false }) only
    rw [hs]
    first | (refine ⟨o, x, s, rfl, ho9, hs1, hslim, ?_⟩; intro H10 e10) | intro H10 e10
    have ho10 := e10.isD ho9
    have hp10 := e10.pu hp9
    have hb10 := e10 _ _ hb9
    have x10 := x9.trans (e10.exp (p := p))
    walk_at "go"
    intro H11 d11 e11 hp11 h110 h111
    have ho11 := e11.isD hp10 ho10
    have hb11 := e11 _ _ hbp hb10
    have x11 := x10.trans e11
    obtain ⟨i, rfl⟩ : ∃ i : Nat, d11 = i := ⟨d11.toNat, by omega⟩
    have his : i < s := by omega
    walk_at "go"
    first | (refine ⟨o, x, s, i, rfl, ho11, hs1, hslim, his, ?_⟩; intro H12 e12) | intro H12 e12
    have ho12 := e12.isD ho11
    have hp12 := e12.pu hp11
    have hb12 := e12 _ _ hb11
    have x12 := x11.trans (e12.exp (p := p))
    walk_at "go"
    first | (refine ⟨o, x, s, rfl, ho12, hs1, hs64, ?_⟩; intro H13 pl e13 hpl) | intro H13 pl e13 hpl
    have ho13 := e13.isD ho12
    have hp13 := e13.pu hp12
    have hb13 := e13 _ _ hb12
    have x13 := x12.trans (e13.exp (p := p))
    clear e9 e10 e11 e12 hp9 hp10 hp11 hp12 ho9 ho10 ho11 ho12 hb9 hb10 hb11 hb12 x8 x9 x10 x11 x12 h90 h91 h110 h111 hs
    obtain ⟨dxp, tp, hpl1, hpl2⟩ := id hpl
    refine ⟨_, _, _, rfl, hpl1, ?_⟩
    first | (refine ⟨pl, s, _, rfl, hpl, hs64, by rw [rowsOf_len]; exact fewest_64 x hs64, fun r hr => by rw [rowsOf_each r hr, List.length_map, List.length_range], ?_⟩; intro H14 pc e14 hpc) | intro H14 pc e14 hpc
    have ho14 := e14.isD ho13
    have hp14 := e14.pu hp13
    have hb14 := e14 _ _ hb13
    have x14 := x13.trans (e14.exp (p := p))
    walk_at "go"
    refine ⟨_, _, _, _, rfl, rfl, hpc, cols_at hslim his, ?_⟩
    generalize colV x s i = cl0
    clear hpc
    walk_at "go"
    refine ntF rfl ?_
    walk_at "go"
    intro H15 d15 e15 hp15 h150 h151
    have ho15 := e15.isD hp14 ho14
    have hb15 := e15 _ _ hbp hb14
    have x15 := x14.trans e15
    obtain ⟨dn, rfl⟩ : ∃ dn : Nat, d15 = dn := ⟨d15.toNat, by omega⟩
    walk_at "go"
    first | (refine ⟨p, b, x, dn, 12, rfl, hp15, hb15, by omega, Nat.le_refl _, ?_⟩; intro H16 a cs e16 hp16 ha hcl hne hct hpw) | intro H16 a cs e16 hp16 ha hcl hne hct hpw
    have ho16 := e16.isD hp15 ho15
    have x16 := x15.trans e16
    have hLa := sqL_of (K := K) ha
    have hkp := fewest_kept (x := x) (N := dn) (by omega) hcl (by omega) (hpw.imp fun h => keeps_of h)
    have hlr : (rowsV cs).length = cs.length := List.length_map _
    have hpos : 0 < cs.length := List.length_pos_iff.mpr hne
    walk_at "go"
    rw [hlr]
    first | (refine ⟨o, x, cs.length, rfl, ho16, hpos, Nat.le_trans hct (by decide), ?_⟩; intro H17 e17) | (refine ⟨Nat.le_trans hct (by decide), ?_⟩; intro H17 e17)
    walk_at "go"
    show Q (.bl (decide (((fewest x cs.length : Nat) : Int) ≤ (dn : Int)))) H17
    rw [decide_eq_true (by omega)]
    exact hq H17 (x16.trans (e17.exp (p := p)))
end
end FwW
end
section
set_option Elab.async false
set_option linter.all false
set_option maxRecDepth 100000
set_option maxHeartbeats 4000000
namespace FwW
open PySem PySem.Spec PyProof.Rows L2 FwR FwH Fw
local macro_rules | `(tactic| walk_at "go") => `(tactic| (repeat (first | refine ⟨_, rfl, ?_⟩ | refine ⟨_, _, rfl, rfl, ?_⟩ | refine ⟨_, _, rfl, lenTx (by assumption), ?_⟩ | refine ⟨_, _, rfl, ?_⟩ | refine ⟨_, _, _, rfl, ?_⟩ | refine ⟨Or.inl ⟨by omega, by omega⟩, ?_⟩ | refine ⟨Or.inr ⟨by omega, by omega⟩, ?_⟩ | refine ⟨⟨by omega, by omega⟩, ?_⟩ | refine ⟨(rfl : ("str" : String) = "str"), ?_⟩ | refine ⟨_, _, rfl, sqT_new, rfl, ?_⟩ | refine ⟨_, _, rfl, sqT_of (by assumption), rfl, ?_⟩ | refine ⟨⟨_, rfl⟩, ?_⟩ | refine And.intro scS ?_ | refine And.intro scI ?_ | refine And.intro (short (Nat.le_of_ble_eq_true rfl)) ?_ | refine ⟨_, _, rfl, .inr (by assumption), rfl, ws_flat _, ?_⟩ | refine ⟨_, _, rfl, lenT (by assumption), ?_⟩ | refine ⟨_, _, rfl, lenL (by assumption), ?_⟩ | refine ⟨_, _, _, _, _, rfl, by assumption, Tc.dcls (by assumption), Tc.dkept (by assumption), rfl, ?_⟩ | refine .inl ⟨_, rfl, ?_⟩ | refine .inr ⟨_, rfl, ?_⟩ | refine And.intro (by omega) ?_ | refine ⟨_, _, _, _, _, rfl, .ty _, .base (.int _), kit_ii, ?_⟩ | refine ⟨_, _, _, _, _, rfl, .ty _, .base (.int _), kit_ib, ?_⟩ | refine ⟨_, _, _, _, _, rfl, .ty _, .base (.str _), kit_ss, ?_⟩ | refine ⟨_, _, _, _, _, rfl, .ty _, .base (.bl _), kit_bb, ?_⟩ | refine ⟨_, _, _, _, _, rfl, .ty _, ty_t (by assumption), kit_tt, ?_⟩ | refine iteT ?_ | refine iteF ?_ | refine niT ?_ | refine nsT ?_ | refine nrT ?_ | refine nnF ?_ | refine iiF ?_ | refine isF ?_ | refine irF ?_ | refine nnT ?_ | refine eT (by omega) ?_ | refine eF (by omega) ?_ | refine nT (by omega) ?_ | refine nF (by omega) ?_ | refine dT (by omega) ?_ | refine dF (by omega) ?_)))
section
variable {P : Program} {w : World} {K : PySem.W.Frag} {mg : Str → Option Value} {base : Heap}
theorem sqL_over {H H1 H2 : Hp} {p a : Addr} {xs : List V} (h : SqL K H a xs) (hp : H p = none) (e1 : Ext H H1) (e2 : Exp p H1 H2) : SqL K H2 a xs := by
  rcases h with (h | ⟨o, h⟩) | h
  · exact .inl (.inl (e2 a _ (fun z => by subst z; rw [hp] at h; cases h) (e1 _ _ h)))
  · exact .inl (.inr ⟨o, e2 a _ (fun z => by subst z; rw [hp] at h; cases h) (e1 _ _ h)⟩)
  · exact .inr h
theorem fnG_mk {x : Str} {st : Stmt} {N ps : List Str} {k : Nat} {sp : Sp} {f : Addr} {fd : FuncData} (F : FunD K x x (defArgs st) (defBody st) (defScope st) [] [] f fd) (S : FnScope N ps (defScope st))
    (len : ∀ vs H Q E, sp vs H Q E → vs.length = ps.length)
    (body : ∀ (cdv : Value) (A : Around) (outer : List Env) (s : Shared) (H : Hp) (vs : List V) (Q : VK) (E : XK), A.guards = some [] → Room k (A.deeper (envOfC x (defScope st) s.heap.objs.size f cdv)) → sp vs H Q E →
      ∃ t, PSs (cxOf CX0 P w K mg base N x (defScope st) f cdv A outer s H E).nox (defBody st) t ∧ t { nx := fun _ H' => Q .non H', rt := Q } (start N vs) H) : FnG P w K mg base (k + 1) f fd ps sp := by
  refine ⟨len, fun A outer s H args us vs Q E hg hr e0 hbind r hsp => ?_⟩
  obtain ⟨oc, od, dV, kV, doc, pm, an, cdv, ct, osl, rfl, lk, hcd, _, _⟩ := F.ex
  refine StX.run_bnd (G := fun xs H2 => xs = vs ∧ H2 = H) lk hcd S hr e0 (fun A' Ex Q' hq => hbind _ _ _ _ ?_) fun s2 H2 xs hx hr' => ?_
  · exact hq s H vs us e0 Un.refl rfl (fun _ _ z => z) r (len _ _ _ _ hsp) ⟨rfl, rfl⟩
  · obtain ⟨rfl, rfl⟩ := hx
    obtain ⟨t, ht, q⟩ := body cdv A outer s2 H2 xs Q E hg hr' hsp
    exact ⟨t, ht.nox, q⟩
def spLaw (K : PySem.W.Frag) : Sp := fun vs H Q _ => ∃ (a : Addr) (ns : List Int), vs = [.ref a] ∧ SqL K H a (ns.map V.int) ∧ ns.length ≤ sizeLine ∧ ∀ H', Q (.bl true) H'
theorem sc_law : FnScope ["_law_script", "_law_k"] ["_law_script"] (defScope s_law) := ⟨rfl, rfl, rfl, by decide +kernel, rfl, by decide +kernel, by decide +kernel⟩
theorem fn_law (T : Tx w K mg) (c : Tc K) {f : Addr} {fd : FuncData} (h : FunD K "law" "law" (defArgs s_law) (defBody s_law) (defScope s_law) [] [] f fd) (A_law_right : AvG P w K mg base "_law_right" 10 ["_law_purse_here"] spRight) (A_law_purse : Av P w K mg base "_law_purse" 1 ["_law_script", "_law_k"] (spPurse K)) : FnG P w K mg base 11 f fd ["_law_script"] (spLaw K) := by
  refine fnG_mk h sc_law (fun vs H Q E hs => ?_) (fun cdv A outer s H vs Q E hgu hr hs => ?_)
  · obtain ⟨a, ns, rfl, _⟩ := hs
    rfl
  obtain ⟨a, ns, rfl, hL, hn, hq⟩ := hs
  refine ⟨_, (pss_cons (ps_for PassesOwn.never rfl (pi_range1 (by rfl) T.range (pa_cons (pe_callB (call_max2 rfl) (by rfl) T.max (by decide +kernel) (pa_cons pe_int (pa_cons (pe_callB (call_min2 rfl) (by rfl) T.min (by decide +kernel) (pa_cons (pe_callB (call_lenK (K := K) rfl) (by rfl) T.len PySem.boot_len (pa_cons (pv 0) pa_nil)) (pa_cons pe_int pa_nil))) pa_nil))) pa_nil)) (pg_name (i := 1) sc_law.nd rfl (Or.inl rfl))
    (pss_one (ps_if (pt_not (pt_val (pe_callG (A_law_right.mono (by decide)) hgu hr (by rfl) (pa_cons (pe_callV (A_law_purse.mono (by decide)) hr (by rfl) (pa_cons (pv 0) (pa_cons (pv 1) pa_nil))) pa_nil)))) (pss_one (ps_ret pe_bl)) pss_nil)))
    (pss_one (ps_ret pe_bl))), ?_⟩
  have hlen : (ns.map V.int).length = ns.length := List.length_map _
  walk_at "go"
  rw [hlen]
  obtain ⟨m, hm, hm4⟩ : ∃ m : Nat, (if (if (4 : Int) < ((ns.length : Nat) : Int) then (4 : Int) else ((ns.length : Nat) : Int)) > 2 then (if (4 : Int) < ((ns.length : Nat) : Int) then (4 : Int) else ((ns.length : Nat) : Int)) else 2) = (m : Int) ∧ m ≤ 4 := by
    refine ⟨(if (if (4 : Int) < ((ns.length : Nat) : Int) then (4 : Int) else ((ns.length : Nat) : Int)) > 2 then (if (4 : Int) < ((ns.length : Nat) : Int) then (4 : Int) else ((ns.length : Nat) : Int)) else 2).toNat, ?_, ?_⟩
    · split <;> split <;> omega
    · split <;> split <;> omega
  rw [hm]
  walk_at "go"
  refine for_range (n := m) (fun i σ H' => SqL K H' a (ns.map V.int) ∧ ∃ o : Option V, σ = [some (.ref a), o]) ⟨hL, _, rfl⟩ ?_ ?_
  · rintro i σ H1 hi ⟨hL1, o, rfl⟩
    walk_at "go"
    refine ⟨a, ns, i, by simp only [Int.zero_add], hL1, hn, by omega, fun H2 p e2 hpn hp2 => ?_⟩
    walk_at "go"
    intro H3 e3
    have hL3 := sqL_over hL1 hpn e2 e3
    walk_at "go"
    exact ⟨_, rfl⟩
  · rintro σ H1 ⟨hL1, o, rfl⟩
    walk_at "go"
    exact hq H1
end
end FwW
end
section
set_option Elab.async false
set_option linter.all false
set_option maxRecDepth 100000
set_option maxHeartbeats 0
/-! Assembly: names, classes, every def's promise, the law. Printed by gen_asm.py. -/
namespace FwX
open PySem PySem.Spec PyProof.Rows L2 FwR FwH FwW Fw
section
variable {P : Program} {w : World} {K : PySem.W.Frag} {h : Heap} {mg : Str → Option Value}
abbrev Says (w : World) (K : PySem.W.Frag) : Prop := FwK.SaysP fa fn ts gs ex w K
theorem ba {a b : Bool} (h : (a && b) = true) : a = true ∧ b = true := Bool.and_eq_true_iff.mp h
theorem tx_ok (X : K.In h) (G : h.Ns mainGlobals mg) (c : Says w K) : Tx w K mg := by
  obtain ⟨m1, mr⟩ := ba c.more
  obtain ⟨m2, mr⟩ := ba mr
  obtain ⟨m3, mr⟩ := ba mr
  obtain ⟨m4, mr⟩ := ba mr
  obtain ⟨es, n, D⟩ := c.t.tab 0 rfl
  obtain ⟨es2, n2, D2⟩ := c.t.tab 1 rfl
  refine {
    range := He.free_ok X G (c.t.d.fact 67 (f := .free "range") rfl)
    len := He.free_ok X G (c.t.d.fact 66 (f := .free "len") rfl)
    min := He.free_ok X G (c.t.d.fact 69 (f := .free "min") rfl)
    max := He.free_ok X G (c.t.d.fact 68 (f := .free "max") rfl)
    sum := He.free_ok X G (c.t.d.fact 70 (f := .free "sum") rfl)
    all := He.free_ok X G (c.t.d.fact 71 (f := .free "all") rfl)
    any := He.free_ok X G (c.t.d.fact 72 (f := .free "any") rfl)
    abs := He.free_ok X G (c.t.d.fact 79 (f := .free "abs") rfl)
    isinstance := He.free_ok X G (c.t.d.fact 76 (f := .free "isinstance") rfl)
    enumerate := He.free_ok X G (c.t.d.fact 80 (f := .free "enumerate") rfl)
    repr := He.free_ok X G (c.t.d.fact 81 (f := .free "repr") rfl)
    int_ := He.free_ok X G (c.t.d.fact 75 (f := .free "int") rfl)
    bool_ := He.free_ok X G (c.t.d.fact 78 (f := .free "bool") rfl)
    str_ := He.free_ok X G (c.t.d.fact 77 (f := .free "str") rfl)
    tuple_ := He.free_ok X G (c.t.d.fact 74 (f := .free "tuple") rfl)
    list_ := He.free_ok X G (c.t.d.fact 73 (f := .free "list") rfl)
    MOST_SWITCHES := He.int_ok X G (c.t.d.fact 82 (f := .int "MOST_SWITCHES" 64) rfl)
    MOST_TRIALS := He.int_ok X G (c.t.d.fact 83 (f := .int "MOST_TRIALS" 64) rfl)
    MOST_ASKED_demands := He.int_ok X G (c.t.d.fact 84 (f := .int "MOST_ASKED_demands" (10 ^ 40)) rfl)
    MOST_ASKED_checker := He.int_ok X G (c.t.d.fact 85 (f := .int "MOST_ASKED_checker" (10 ^ 40)) rfl)
    WAYS_values := He.glo_ok X G (c.t.d.fact 62 (f := .glo "WAYS_values") rfl)
    WAYS_checker := He.glo_ok X G (c.t.d.fact 63 (f := .glo "WAYS_checker") rfl)
    SAME := He.glo_ok X G (c.t.d.fact 64 (f := .glo "SAME") rfl)
    SIZES := He.glo_ok X G (c.t.d.fact 65 (f := .glo "SIZES") rfl)
    Demand := He.glo_ok X G (c.t.d.fact 60 (f := .glo "Demand") rfl)
    Plan := He.glo_ok X G (c.t.d.fact 61 (f := .glo "Plan") rfl)
    wv_ok := fun H => He.tupB_ok m1 H
    wc_ok := fun H => He.tupB_ok m2 H
    same_ok := fun x h0 => ?_
    sizes := ⟨es2, n2, D2⟩
    size_f := ?_
    size_c := ?_ }
  · have key : ∀ (k : Str) (v : Str), (k, He.Dv.str v) ∈ ([("", .str ""), ("00", .str "0"), ("11", .str "1"), ("00 11", .str "10")] : List (Str × He.Dv)) → KDct K w (He.ga K "SAME") k (.str v) := fun k v hm => by
      obtain ⟨u, h1, h2⟩ := He.valsB_ok m3 hm
      exact ⟨es, n, u, D.at_, D.lit, h1, h2⟩
    obtain ⟨xa, xb, xc, xd⟩ := x
    cases xb
    · cases xc
      · cases xa
        · cases xd
          · exact key "" "" (by simp)
          · exact key "11" "1" (by simp)
        · cases xd
          · exact key "00" "0" (by simp)
          · exact key "00 11" "10" (by simp)
      · exact absurd h0 (by show 0 + 1 ≠ 0; decide)
    · exact absurd h0 (by show 1 + _ ≠ 0; omega)
  · obtain ⟨u, h1, t, rfl⟩ := He.valsB_ok m4 (q := ("fewest", .int 4)) (by simp)
    exact ⟨t, h1⟩
  · obtain ⟨u, h1, t, rfl⟩ := He.valsB_ok m4 (q := ("column", .int 5)) (by simp)
    exact ⟨t, h1⟩
theorem tc_ok (c : Says w K) : Tc K := by
  obtain ⟨m1, mr⟩ := ba c.more
  obtain ⟨m2, mr⟩ := ba mr
  obtain ⟨m3, mr⟩ := ba mr
  obtain ⟨m4, mr⟩ := ba mr
  obtain ⟨m5, mr⟩ := ba mr
  obtain ⟨m6, mr⟩ := ba mr
  obtain ⟨m7, mr⟩ := ba mr
  obtain ⟨m8, mr⟩ := ba mr
  obtain ⟨m9, m10⟩ := ba mr
  have dc := He.cls_ok (c.t.d.fact 86 (f := .cls "Demand") rfl)
  have is := FwK.isB_ok m9 dc
  exact {
    dcls := dc
    pcls := He.cls_ok (c.t.d.fact 87 (f := .cls "Plan") rfl)
    dkept := He.noat_ok (c.t.d.fact 88 (f := .noat "Demand" "kept") rfl)
    pmany := He.noat_ok (c.t.d.fact 89 (f := .noat "Plan" "many") rfl)
    prows := He.noat_ok (c.t.d.fact 90 (f := .noat "Plan" "rows") rfl)
    dfew := He.meth_ok (c.t.d.fact 91 (f := .meth "Demand" "fewest") rfl)
    dcol := He.meth_ok (c.t.d.fact 92 (f := .meth "Demand" "column") rfl)
    dpla := He.meth_ok (c.t.d.fact 93 (f := .meth "Demand" "place") rfl)
    dstr := He.meth_ok (c.t.d.fact 94 (f := .meth "Demand" "__str__") rfl)
    dmk := He.mkr_ok (c.t.d.fact 95 (f := .mkr "Demand") rfl)
    pmk := He.mkr_ok (c.t.d.fact 96 (f := .mkr "Plan") rfl)
    drr := (FwK.cmB_ok m5).1
    drm := (FwK.cmB_ok m5).2
    pbr := (FwK.cmB_ok m6).1
    pbm := (FwK.cmB_ok m6).2
    dwp := FwK.prB_ok m7
    pcp := FwK.prB_ok m8
    dis := is.1
    dkit := is.2
    empt := fun H => by
      split at m10
      · rename_i c d its n sl e
        obtain ⟨h1, h2⟩ := ba m10
        refine .inr ⟨_, its, n, e, by rw [of_decide_eq_true h1], rfl, ?_, ?_⟩
        · have : its = #[] := by simpa using h2
          rw [this]
          exact Nat.zero_le _
        · have : its = #[] := by simpa using h2
          rw [this]
          exact .nil
      · cases m10 }
end
end FwX
end
section
set_option Elab.async false
set_option linter.all false
set_option maxRecDepth 100000
set_option maxHeartbeats 0
/-! Every def's promise, in order. Printed by gen_asm.py. -/
namespace FwX
open PySem PySem.Spec PyProof.Rows L2 FwR FwH FwW Fw
theorem law_ok {P : Program} {w : World} {K : PySem.W.Frag} {h : Heap} {mg : Str → Option Value} {fa : Addr} (X : K.In h) (G : h.Ns mainGlobals mg) (c : Says w K) (hfa : mg ("law" : Str) = some (.ref fa)) :
    ∃ fd : FuncData, (∀ (s : Shared) (v : Value), BindsTo s fd ⟨[v], []⟩ [("_law_script", v)]) ∧ ∀ base : Heap, FnG P w K mg base 11 fa fd ["_law_script"] (spLaw K) := by
  have T := tx_ok X G c
  have Tc := tc_ok c
  obtain ⟨fd, F⟩ := c.t.d.def_ 59 (d := dd "law" "law" s_law) rfl
  have e := hfa.symm.trans (He.glo_ok X G (c.t.d.fact 59 (f := .glo "law") rfl))
  cases e
  have b := FunD.bindsA (ps := ["_law_script"]) F fun _ _ _ _ _ _ us hl => match us, hl with | [_], _ => rfl
  refine ⟨fd, fun s v => b s [v] rfl, fun base => ?_⟩
  have A_binomial := av_binomial (P := P) (mg := mg) (base := base) T Tc  ((fun z => ⟨_, z.choose, z.choose_spec, He.glo_ok X G (c.t.d.fact 0 (f := .glo "binomial") rfl)⟩) (c.t.d.def_ 0 (d := dd "binomial" "binomial" s_binomial) rfl)) 
  have A_doubled := av_doubled (P := P) (mg := mg) (base := base) T Tc  ((fun z => ⟨_, z.choose, z.choose_spec, He.glo_ok X G (c.t.d.fact 1 (f := .glo "doubled") rfl)⟩) (c.t.d.def_ 1 (d := dd "doubled" "doubled" s_doubled) rfl)) 
  have A_text_with := av_text_with (P := P) (mg := mg) (base := base) T Tc  ((fun z => ⟨_, z.choose, z.choose_spec, He.glo_ok X G (c.t.d.fact 2 (f := .glo "text_with") rfl)⟩) (c.t.d.def_ 2 (d := dd "text_with" "text_with" s_text_with) rfl)) A_binomial
  have A_index_with := av_index_with (P := P) (mg := mg) (base := base) T Tc  ((fun z => ⟨_, z.choose, z.choose_spec, He.glo_ok X G (c.t.d.fact 3 (f := .glo "index_with") rfl)⟩) (c.t.d.def_ 3 (d := dd "index_with" "index_with" s_index_with) rfl)) A_binomial
  have A_text_by_ones := av_text_by_ones (P := P) (mg := mg) (base := base) T Tc  ((fun z => ⟨_, z.choose, z.choose_spec, He.glo_ok X G (c.t.d.fact 4 (f := .glo "text_by_ones") rfl)⟩) (c.t.d.def_ 4 (d := dd "text_by_ones" "text_by_ones" s_text_by_ones) rfl)) A_binomial A_text_with
  have A_index_by_ones := av_index_by_ones (P := P) (mg := mg) (base := base) T Tc  ((fun z => ⟨_, z.choose, z.choose_spec, He.glo_ok X G (c.t.d.fact 5 (f := .glo "index_by_ones") rfl)⟩) (c.t.d.def_ 5 (d := dd "index_by_ones" "index_by_ones" s_index_by_ones) rfl)) A_binomial A_index_with
  have A_is_integer_values := av_is_integer_values (P := P) (mg := mg) (base := base) T Tc  ((fun z => ⟨_, z.choose, z.choose_spec, He.glo_ok X G (c.t.d.fact 6 (f := .glo "is_integer_values") rfl)⟩) (c.t.d.def_ 6 (d := dd "is_integer_values" "is_integer" s_is_integer_values) rfl)) 
  have A_is_integer_checker := av_is_integer_checker (P := P) (mg := mg) (base := base) T Tc  ((fun z => ⟨_, z.choose, z.choose_spec, He.glo_ok X G (c.t.d.fact 28 (f := .glo "is_integer_checker") rfl)⟩) (c.t.d.def_ 28 (d := dd "is_integer_checker" "is_integer" s_is_integer_checker) rfl)) 
  have A_is_index := av_is_index (P := P) (mg := mg) (base := base) T Tc  ((fun z => ⟨_, z.choose, z.choose_spec, He.glo_ok X G (c.t.d.fact 7 (f := .glo "is_index") rfl)⟩) (c.t.d.def_ 7 (d := dd "is_index" "is_index" s_is_index) rfl)) A_is_integer_values
  have A_is_number := av_is_number (P := P) (mg := mg) (base := base) T Tc  ((fun z => ⟨_, z.choose, z.choose_spec, He.glo_ok X G (c.t.d.fact 29 (f := .glo "is_number") rfl)⟩) (c.t.d.def_ 29 (d := dd "is_number" "is_number" s_is_number) rfl)) A_is_integer_checker
  have A_is_signs_values := av_is_signs_values (P := P) (mg := mg) (base := base) T Tc  ((fun z => ⟨_, z.choose, z.choose_spec, He.glo_ok X G (c.t.d.fact 8 (f := .glo "is_signs_values") rfl)⟩) (c.t.d.def_ 8 (d := dd "is_signs_values" "is_signs" s_is_signs_values) rfl)) 
  have A_is_signs_checker := av_is_signs_checker (P := P) (mg := mg) (base := base) T Tc  ((fun z => ⟨_, z.choose, z.choose_spec, He.glo_ok X G (c.t.d.fact 30 (f := .glo "is_signs_checker") rfl)⟩) (c.t.d.def_ 30 (d := dd "is_signs_checker" "is_signs" s_is_signs_checker) rfl)) 
  have A_is_way := av_is_way (P := P) (mg := mg) (base := base) T Tc  ((fun z => ⟨_, z.choose, z.choose_spec, He.glo_ok X G (c.t.d.fact 9 (f := .glo "is_way") rfl)⟩) (c.t.d.def_ 9 (d := dd "is_way" "is_way" s_is_way) rfl)) 
  have A_check_way := av_check_way (P := P) (mg := mg) (base := base) T Tc  ((fun z => ⟨_, z.choose, z.choose_spec, He.glo_ok X G (c.t.d.fact 10 (f := .glo "check_way") rfl)⟩) (c.t.d.def_ 10 (d := dd "check_way" "check_way" s_check_way) rfl)) A_is_way
  have A_check_switches := av_check_switches (P := P) (mg := mg) (base := base) T Tc  ((fun z => ⟨_, z.choose, z.choose_spec, He.glo_ok X G (c.t.d.fact 11 (f := .glo "check_switches") rfl)⟩) (c.t.d.def_ 11 (d := dd "check_switches" "check_switches" s_check_switches) rfl)) A_is_integer_values
  have A_check_few_switches := av_check_few_switches (P := P) (mg := mg) (base := base) T Tc  ((fun z => ⟨_, z.choose, z.choose_spec, He.glo_ok X G (c.t.d.fact 12 (f := .glo "check_few_switches") rfl)⟩) (c.t.d.def_ 12 (d := dd "check_few_switches" "check_few_switches" s_check_few_switches) rfl)) A_check_switches
  have A_check_asked := av_check_asked (P := P) (mg := mg) (base := base) T Tc  ((fun z => ⟨_, z.choose, z.choose_spec, He.glo_ok X G (c.t.d.fact 22 (f := .glo "check_asked") rfl)⟩) (c.t.d.def_ 22 (d := dd "check_asked" "check_asked" s_check_asked) rfl)) A_check_switches
  have A_sides_of := av_sides_of (P := P) (mg := mg) (base := base) T Tc  ((fun z => ⟨_, z.choose, z.choose_spec, He.glo_ok X G (c.t.d.fact 13 (f := .glo "sides_of") rfl)⟩) (c.t.d.def_ 13 (d := dd "sides_of" "sides_of" s_sides_of) rfl)) 
  have A_most_of := av_most_of (P := P) (mg := mg) (base := base) T Tc  ((fun z => ⟨_, z.choose, z.choose_spec, He.glo_ok X G (c.t.d.fact 14 (f := .glo "most_of") rfl)⟩) (c.t.d.def_ 14 (d := dd "most_of" "most_of" s_most_of) rfl)) A_sides_of A_doubled A_binomial
  have A_fewest_of := av_fewest_of (P := P) (mg := mg) (base := base) T Tc  ((fun z => ⟨_, z.choose, z.choose_spec, He.glo_ok X G (c.t.d.fact 15 (f := .glo "fewest_of") rfl)⟩) (c.t.d.def_ 15 (d := dd "fewest_of" "fewest_of" s_fewest_of) rfl)) A_most_of
  have A_head_of := av_head_of (P := P) (mg := mg) (base := base) T Tc  ((fun z => ⟨_, z.choose, z.choose_spec, He.glo_ok X G (c.t.d.fact 16 (f := .glo "head_of") rfl)⟩) (c.t.d.def_ 16 (d := dd "head_of" "head_of" s_head_of) rfl)) 
  have A_ones_of := av_ones_of (P := P) (mg := mg) (base := base) T Tc  ((fun z => ⟨_, z.choose, z.choose_spec, He.glo_ok X G (c.t.d.fact 17 (f := .glo "ones_of") rfl)⟩) (c.t.d.def_ 17 (d := dd "ones_of" "ones_of" s_ones_of) rfl)) 
  have A_column_of := av_column_of (P := P) (mg := mg) (base := base) T Tc  ((fun z => ⟨_, z.choose, z.choose_spec, He.glo_ok X G (c.t.d.fact 18 (f := .glo "column_of") rfl)⟩) (c.t.d.def_ 18 (d := dd "column_of" "column_of" s_column_of) rfl)) A_sides_of A_head_of A_text_by_ones A_text_with A_ones_of
  have A_index_of := av_index_of (P := P) (mg := mg) (base := base) T Tc  ((fun z => ⟨_, z.choose, z.choose_spec, He.glo_ok X G (c.t.d.fact 19 (f := .glo "index_of") rfl)⟩) (c.t.d.def_ 19 (d := dd "index_of" "index_of" s_index_of) rfl)) A_sides_of A_head_of A_index_by_ones A_index_with A_ones_of
  have M_Demand_init := mv_Demand_init (P := P) (mg := mg) (base := base) T Tc (c.t.d.def_ 60 (d := ⟨("Demand", some "__init__"), "__init__", "Demand.__init__", defArgs sDemand_init, defBody sDemand_init, defScope sDemand_init, [], []⟩) rfl) A_check_way
  have A_demand_of := av_demand_of (P := P) (mg := mg) (base := base) T Tc M_Demand_init ((fun z => ⟨_, z.choose, z.choose_spec, He.glo_ok X G (c.t.d.fact 20 (f := .glo "demand_of") rfl)⟩) (c.t.d.def_ 20 (d := dd "demand_of" "demand_of" s_demand_of) rfl)) 
  have A_check_demand := av_check_demand (P := P) (mg := mg) (base := base) T Tc  ((fun z => ⟨_, z.choose, z.choose_spec, He.glo_ok X G (c.t.d.fact 21 (f := .glo "check_demand") rfl)⟩) (c.t.d.def_ 21 (d := dd "check_demand" "check_demand" s_check_demand) rfl)) 
  have A_demand_with := av_demand_with (P := P) (mg := mg) (base := base) T Tc  ((fun z => ⟨_, z.choose, z.choose_spec, He.glo_ok X G (c.t.d.fact 23 (f := .glo "demand_with") rfl)⟩) (c.t.d.def_ 23 (d := dd "demand_with" "demand_with" s_demand_with) rfl)) A_demand_of
  have M_Demand_read := mv_Demand_read (P := P) (mg := mg) (base := base) T Tc (c.path 0 (d := ⟨fun K => FwK.recAd K "classmethod" (He.ga K "Demand") "read", "read", "Demand.read", defArgs sDemand_read, defBody sDemand_read, defScope sDemand_read⟩) rfl) A_demand_with
  have M_Demand_ways := mv_Demand_ways (P := P) (mg := mg) (base := base) T Tc (c.path 1 (d := ⟨fun K => FwK.recAd K "property" (He.ga K "Demand") "ways", "ways", "Demand.ways", defArgs sDemand_ways, defBody sDemand_ways, defScope sDemand_ways⟩) rfl) 
  have M_Demand_fewest := mv_Demand_fewest (P := P) (mg := mg) (base := base) T Tc (c.t.d.def_ 61 (d := ⟨("Demand", some "fewest"), "fewest", "Demand.fewest", defArgs sDemand_fewest, defBody sDemand_fewest, defScope sDemand_fewest, [], []⟩) rfl) A_check_asked A_fewest_of
  have M_Demand_column := mv_Demand_column (P := P) (mg := mg) (base := base) T Tc (c.t.d.def_ 62 (d := ⟨("Demand", some "column"), "column", "Demand.column", defArgs sDemand_column, defBody sDemand_column, defScope sDemand_column, [], []⟩) rfl) A_check_asked A_is_index A_column_of A_fewest_of
  have M_Demand_place := mv_Demand_place (P := P) (mg := mg) (base := base) T Tc (c.t.d.def_ 63 (d := ⟨("Demand", some "place"), "place", "Demand.place", defArgs sDemand_place, defBody sDemand_place, defScope sDemand_place, [], []⟩) rfl) A_check_asked A_is_signs_values A_fewest_of A_index_of
  have M_Demand_str := mv_Demand_str (P := P) (mg := mg) (base := base) T Tc (c.t.d.def_ 64 (d := ⟨("Demand", some "__str__"), "__str__", "Demand.__str__", defArgs sDemand_str, defBody sDemand_str, defScope sDemand_str, [], []⟩) rfl) 
  have A_chosen := av_chosen (P := P) (mg := mg) (base := base) T Tc  ((fun z => ⟨_, z.choose, z.choose_spec, He.glo_ok X G (c.t.d.fact 33 (f := .glo "chosen") rfl)⟩) (c.t.d.def_ 33 (d := dd "chosen" "chosen" s_chosen) rfl)) 
  have A_powered := av_powered (P := P) (mg := mg) (base := base) T Tc  ((fun z => ⟨_, z.choose, z.choose_spec, He.glo_ok X G (c.t.d.fact 34 (f := .glo "powered") rfl)⟩) (c.t.d.def_ 34 (d := dd "powered" "powered" s_powered) rfl)) 
  have A_split_of := av_split_of (P := P) (mg := mg) (base := base) T Tc  ((fun z => ⟨_, z.choose, z.choose_spec, He.glo_ok X G (c.t.d.fact 35 (f := .glo "split_of") rfl)⟩) (c.t.d.def_ 35 (d := dd "split_of" "split_of" s_split_of) rfl)) 
  have A_most_for := av_most_for (P := P) (mg := mg) (base := base) T Tc  ((fun z => ⟨_, z.choose, z.choose_spec, He.glo_ok X G (c.t.d.fact 36 (f := .glo "most_for") rfl)⟩) (c.t.d.def_ 36 (d := dd "most_for" "most_for" s_most_for) rfl)) A_split_of A_powered A_chosen
  have A_rank_of := av_rank_of (P := P) (mg := mg) (base := base) T Tc  ((fun z => ⟨_, z.choose, z.choose_spec, He.glo_ok X G (c.t.d.fact 38 (f := .glo "rank_of") rfl)⟩) (c.t.d.def_ 38 (d := dd "rank_of" "rank_of" s_rank_of) rfl)) A_chosen
  have A_fewest_for := av_fewest_for (P := P) (mg := mg) (base := base) T Tc  ((fun z => ⟨_, z.choose, z.choose_spec, He.glo_ok X G (c.t.d.fact 37 (f := .glo "fewest_for") rfl)⟩) (c.t.d.def_ 37 (d := dd "fewest_for" "fewest_for" s_fewest_for) rfl)) A_most_for
  have A_place_of := av_place_of (P := P) (mg := mg) (base := base) T Tc  ((fun z => ⟨_, z.choose, z.choose_spec, He.glo_ok X G (c.t.d.fact 39 (f := .glo "place_of") rfl)⟩) (c.t.d.def_ 39 (d := dd "place_of" "place_of" s_place_of) rfl)) A_split_of A_chosen A_rank_of
  have A_shows_fewest := av_shows_fewest (P := P) (mg := mg) (base := base) T Tc  ((fun z => ⟨_, z.choose, z.choose_spec, He.glo_ok X G (c.t.d.fact 40 (f := .glo "shows_fewest") rfl)⟩) (c.t.d.def_ 40 (d := dd "shows_fewest" "shows_fewest" s_shows_fewest) rfl)) A_is_number A_is_integer_checker A_fewest_for
  have A_is_rising := av_is_rising (P := P) (mg := mg) (base := base) T Tc  ((fun z => ⟨_, z.choose, z.choose_spec, He.glo_ok X G (c.t.d.fact 31 (f := .glo "is_rising") rfl)⟩) (c.t.d.def_ 31 (d := dd "is_rising" "is_rising" s_is_rising) rfl)) 
  have A_ways_in_checker := av_ways_in_checker (P := P) (mg := mg) (base := base) T Tc  ((fun z => ⟨_, z.choose, z.choose_spec, He.glo_ok X G (c.t.d.fact 32 (f := .glo "ways_in_checker") rfl)⟩) (c.t.d.def_ 32 (d := dd "ways_in_checker" "ways_in" s_ways_in_checker) rfl)) A_is_rising
  have A_shows_column := av_shows_column (P := P) (mg := mg) (base := base) T Tc  ((fun z => ⟨_, z.choose, z.choose_spec, He.glo_ok X G (c.t.d.fact 41 (f := .glo "shows_column") rfl)⟩) (c.t.d.def_ 41 (d := dd "shows_column" "shows_column" s_shows_column) rfl)) A_is_number A_fewest_for A_is_signs_checker A_split_of A_place_of
  have A_accepts := av_accepts (P := P) (mg := mg) (base := base) T Tc  ((fun z => ⟨_, z.choose, z.choose_spec, He.glo_ok X G (c.t.d.fact 42 (f := .glo "accepts") rfl)⟩) (c.t.d.def_ 42 (d := dd "accepts" "accepts" s_accepts) rfl)) A_ways_in_checker A_shows_fewest A_shows_column
  have A_wrong_trial := av_wrong_trial (P := P) (mg := mg) (base := base) T Tc  ((fun z => ⟨_, z.choose, z.choose_spec, He.glo_ok X G (c.t.d.fact 24 (f := .glo "wrong_trial") rfl)⟩) (c.t.d.def_ 24 (d := dd "wrong_trial" "wrong_trial" s_wrong_trial) rfl)) A_is_signs_values
  have M_Plan_init := mv_Plan_init (P := P) (mg := mg) (base := base) T Tc (c.t.d.def_ 65 (d := ⟨("Plan", some "__init__"), "__init__", "Plan.__init__", defArgs sPlan_init, defBody sPlan_init, defScope sPlan_init, [.adr emptyT], []⟩) rfl) A_check_few_switches A_wrong_trial
  have A_best_plan := av_best_plan (P := P) (mg := mg) (base := base) T Tc M_Plan_init ((fun z => ⟨_, z.choose, z.choose_spec, He.glo_ok X G (c.t.d.fact 25 (f := .glo "best_plan") rfl)⟩) (c.t.d.def_ 25 (d := dd "best_plan" "best_plan" s_best_plan) rfl)) A_fewest_of A_column_of
  have M_Plan_best := mv_Plan_best (P := P) (mg := mg) (base := base) T Tc (c.path 2 (d := ⟨fun K => FwK.recAd K "classmethod" (He.ga K "Plan") "best", "best", "Plan.best", defArgs sPlan_best, defBody sPlan_best, defScope sPlan_best⟩) rfl) A_check_demand A_check_few_switches A_best_plan M_Demand_ways
  have M_Plan_columns := mv_Plan_columns (P := P) (mg := mg) (base := base) T Tc (c.path 3 (d := ⟨fun K => FwK.recAd K "property" (He.ga K "Plan") "columns", "columns", "Plan.columns", defArgs sPlan_columns, defBody sPlan_columns, defScope sPlan_columns⟩) rfl) 
  have A_certify_fewest := av_certify_fewest (P := P) (mg := mg) (base := base) T Tc  ((fun z => ⟨_, z.choose, z.choose_spec, He.glo_ok X G (c.t.d.fact 26 (f := .glo "certify_fewest") rfl)⟩) (c.t.d.def_ 26 (d := dd "certify_fewest" "certify_fewest" s_certify_fewest) rfl)) A_check_demand M_Demand_fewest M_Demand_str
  have A_certify_column := av_certify_column (P := P) (mg := mg) (base := base) T Tc  ((fun z => ⟨_, z.choose, z.choose_spec, He.glo_ok X G (c.t.d.fact 27 (f := .glo "certify_column") rfl)⟩) (c.t.d.def_ 27 (d := dd "certify_column" "certify_column" s_certify_column) rfl)) A_check_demand M_Demand_column M_Demand_str
  have A_law_purse := av_law_purse (P := P) (mg := mg) (base := base) T Tc  ((fun z => ⟨_, z.choose, z.choose_spec, He.glo_ok X G (c.t.d.fact 43 (f := .glo "_law_purse") rfl)⟩) (c.t.d.def_ 43 (d := dd "_law_purse" "_law_purse" s_law_purse) rfl)) 
  have A_law_take := av_law_take (P := P) (mg := mg) (base := base) T Tc  ((fun z => ⟨_, z.choose, z.choose_spec, He.glo_ok X G (c.t.d.fact 44 (f := .glo "_law_take") rfl)⟩) (c.t.d.def_ 44 (d := dd "_law_take" "_law_take" s_law_take) rfl)) 
  have A_law_big := av_law_big (P := P) (mg := mg) (base := base) T Tc  ((fun z => ⟨_, z.choose, z.choose_spec, He.glo_ok X G (c.t.d.fact 45 (f := .glo "_law_big") rfl)⟩) (c.t.d.def_ 45 (d := dd "_law_big" "_law_big" s_law_big) rfl)) A_law_take
  have A_law_ways := av_law_ways (P := P) (mg := mg) (base := base) T Tc  ((fun z => ⟨_, z.choose, z.choose_spec, He.glo_ok X G (c.t.d.fact 46 (f := .glo "_law_ways") rfl)⟩) (c.t.d.def_ 46 (d := dd "_law_ways" "_law_ways" s_law_ways) rfl)) 
  have A_law_line := av_law_line (P := P) (mg := mg) (base := base) T Tc  ((fun z => ⟨_, z.choose, z.choose_spec, He.glo_ok X G (c.t.d.fact 47 (f := .glo "_law_line") rfl)⟩) (c.t.d.def_ 47 (d := dd "_law_line" "_law_line" s_law_line) rfl)) 
  have A_law_choose := av_law_choose (P := P) (mg := mg) (base := base) T Tc  ((fun z => ⟨_, z.choose, z.choose_spec, He.glo_ok X G (c.t.d.fact 48 (f := .glo "_law_choose") rfl)⟩) (c.t.d.def_ 48 (d := dd "_law_choose" "_law_choose" s_law_choose) rfl)) 
  have A_law_most := av_law_most (P := P) (mg := mg) (base := base) T Tc  ((fun z => ⟨_, z.choose, z.choose_spec, He.glo_ok X G (c.t.d.fact 49 (f := .glo "_law_most") rfl)⟩) (c.t.d.def_ 49 (d := dd "_law_most" "_law_most" s_law_most) rfl)) A_law_choose
  have A_law_some_many := av_law_some_many (P := P) (mg := mg) (base := base) T Tc  ((fun z => ⟨_, z.choose, z.choose_spec, He.glo_ok X G (c.t.d.fact 50 (f := .glo "_law_some_many") rfl)⟩) (c.t.d.def_ 50 (d := dd "_law_some_many" "_law_some_many" s_law_some_many) rfl)) A_law_take A_law_most A_law_big
  have A_law_row := av_law_row (P := P) (mg := mg) (base := base) T Tc  ((fun z => ⟨_, z.choose, z.choose_spec, He.glo_ok X G (c.t.d.fact 51 (f := .glo "_law_row") rfl)⟩) (c.t.d.def_ 51 (d := dd "_law_row" "_law_row" s_law_row) rfl)) A_law_take
  have A_law_fits := av_law_fits (P := P) (mg := mg) (base := base) T Tc  ((fun z => ⟨_, z.choose, z.choose_spec, He.glo_ok X G (c.t.d.fact 52 (f := .glo "_law_fits") rfl)⟩) (c.t.d.def_ 52 (d := dd "_law_fits" "_law_fits" s_law_fits) rfl)) 
  have A_law_kept := av_law_kept (P := P) (mg := mg) (base := base) T Tc  ((fun z => ⟨_, z.choose, z.choose_spec, He.glo_ok X G (c.t.d.fact 53 (f := .glo "_law_kept") rfl)⟩) (c.t.d.def_ 53 (d := dd "_law_kept" "_law_kept" s_law_kept) rfl)) A_law_row A_law_take A_law_fits
  have A_law_judged := av_law_judged (P := P) (mg := mg) (base := base) T Tc  ((fun z => ⟨_, z.choose, z.choose_spec, He.glo_ok X G (c.t.d.fact 54 (f := .glo "_law_judged") rfl)⟩) (c.t.d.def_ 54 (d := dd "_law_judged" "_law_judged" s_law_judged) rfl)) A_accepts
  have A_law_told_fewest := av_law_told_fewest (P := P) (mg := mg) (base := base) T Tc A_certify_fewest ((fun z => ⟨_, z.choose, z.choose_spec, He.glo_ok X G (c.t.d.fact 55 (f := .glo "_law_told_fewest") rfl)⟩) (c.t.d.def_ 55 (d := dd "_law_told_fewest" "_law_told_fewest" s_law_told_fewest) rfl)) A_law_judged M_Demand_fewest
  have A_law_told_column := av_law_told_column (P := P) (mg := mg) (base := base) T Tc A_certify_column ((fun z => ⟨_, z.choose, z.choose_spec, He.glo_ok X G (c.t.d.fact 56 (f := .glo "_law_told_column") rfl)⟩) (c.t.d.def_ 56 (d := dd "_law_told_column" "_law_told_column" s_law_told_column) rfl)) A_law_judged M_Demand_place
  have A_law_two_right := av_law_two_right (P := P) (mg := mg) (base := base) T Tc  ((fun z => ⟨_, z.choose, z.choose_spec, He.glo_ok X G (c.t.d.fact 57 (f := .glo "_law_two_right") rfl)⟩) (c.t.d.def_ 57 (d := dd "_law_two_right" "_law_two_right" s_law_two_right) rfl)) A_law_line A_law_big A_law_take A_law_told_column
  have A_law_right := av_law_right (P := P) (mg := mg) (base := base) T Tc  ((fun z => ⟨_, z.choose, z.choose_spec, He.glo_ok X G (c.t.d.fact 58 (f := .glo "_law_right") rfl)⟩) (c.t.d.def_ 58 (d := dd "_law_right" "_law_right" s_law_right) rfl)) A_law_ways A_law_take A_law_some_many A_law_line M_Demand_read A_law_told_fewest A_law_told_column A_law_two_right M_Plan_columns M_Plan_best A_law_kept
  exact fn_law (P := P) (mg := mg) (base := base) T Tc F A_law_right A_law_purse
end FwX
end
section
set_option Elab.async false
set_option linter.all false
set_option maxRecDepth 100000
set_option maxHeartbeats 0
/-! The law holds. -/
open PySem PySem.W PySem.Calls PyProof.Rows
theorem PySem.Challenge.cw_fourways_k61_whole_fewest_and_columns_ce_holds : PySem.Challenge.rw_fourways_k61_whole_fewest_and_columns_ce.Holds := by
  w_on; o_law
  refine HandSHeadRun.head_any (r := OpenLaw.row PySem.Challenge.rw_fourways_k61_whole_fewest_and_columns_ce) (q := FwH.qv) (H := FwH.hk) (ob := FwH.ob) (M := 9000) (loose := FwH.names) (d := HandSHeadRun.topDef (OpenLaw.row PySem.Challenge.rw_fourways_k61_whole_fewest_and_columns_ce).prog 122) (kwd := []) FwH.ob_eq
    (by kernel_rfl) (fun s => by kernel_rfl) FwH.run (by kernel_rfl) (by kernel_rfl) (by kernel_rfl) (by rfl) (by first | assumption | decide +kernel) (by decide +kernel) ⟨rfl, rfl, rfl, rfl, rfl, by decide +kernel⟩ ?hw ?hc
  case hw => w_witness2
  case hc =>
    refine FwR.walk_ofG (l := PySem.Challenge.rw_fourways_k61_whole_fewest_and_columns_ce) (n := 63) (k := 11) (x := "_law_script") rfl (by decide) (by kernel_rfl) ⟨rfl, by decide, by decide⟩ ?F
    intro w mg fa h Y G hmg0
    obtain ⟨K, KX, c⟩ := Y
    have hmg : mg ("law" : PySem.Str) = some (.ref fa) := by
      have e : (HandSHeadRun.topDef (OpenLaw.row PySem.Challenge.rw_fourways_k61_whole_fewest_and_columns_ce).prog 122).name = ("law" : PySem.Str) := by kernel_rfl
      rw [← e]
      exact hmg0
    obtain ⟨fd, hb, hF⟩ := FwX.law_ok (P := (PySem.Challenge.rw_fourways_k61_whole_fewest_and_columns_ce).prog) (w := w) KX G c hmg
    exact ⟨K, fd, FwW.spLaw K, KX, hb, fun H a ns hl hS => ⟨a, ns, rfl, hS, Nat.le_trans hl (by decide), fun _ => rfl⟩, fun base _ _ => hF base⟩
end
