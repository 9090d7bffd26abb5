import PyProof.Rows.All
import Wide.All
import OpenK.AllK
import Wide.FinOn
import HandS.ForMost
import HandS.ForExc
import HandS.Flow
import HandS.Zip
import HandS.TupAny
import HandS.Deep
import HandS.Rev
import HandS.RevRange
import HandS.TupLe
import HandS.IsInst
import HandS.StrMore
import HandS.More
import HandS.CallSlots
import HandS.Walk
import HandS.SortKw
import HandS.SortInts
import HandS.TryMany
import HandS.TryOnly
import HandS.Style
import HandS.Defaults
import HandS.HeadHook1
import HandS.HeadHook2
import HandS.HeadHook3
import HandS.ExcInit
import HandS.ExcIs
import HandS.ExcField
import HandS.ExcOwn
import HandS.ExcValue
import HandS.ClsMeth
import KE.KExcIs
import KE.KStateDown
import HandS.Head0
import HandS.Head1
import HandS.Head2
import HandS.HeadEnd
import HandS.Conv
import HandS.SetFor
import KE.GoesEnum
import KE.KTupSum
import HandS.TupMul
import PyProof.TupleOfSeq
import HandS.JoinGen
import KE.GoesMore
import KE.KIndexOf
import PySem.Challenge.RW_rollcode_k03_tables_that_lead_back
set_option Elab.async false
set_option linter.all false
set_option maxRecDepth 100000
/-! the own classes, and what is looked at when the row's top is run -/
namespace VL
open PySem PySem.Spec PyProof.Rows L2
/-- a step of a walk, found by its head: P is shown by Q -/
class Stp (P : Prop) (Q : outParam Prop) : Prop where
  go : Q → P

/-- the own classes of the text -/
inductive Cn where
  | Button | Door | House | Answers | Walk | CodeError | Worn | Known | Full | Unknown | TooMany | BadPress | BadLog | BadRow
  deriving DecidableEq
def Cn.nm : Cn → Str
  | .Button => "Button" | .Door => "Door" | .House => "House" | .Answers => "Answers" | .Walk => "Walk" | .CodeError => "CodeError" | .Worn => "Worn" | .Known => "Known" | .Full => "Full"
  | .Unknown => "Unknown" | .TooMany => "TooMany" | .BadPress => "BadPress" | .BadLog => "BadLog" | .BadRow => "BadRow"
def Cn.ad (K : PySem.W.Frag) (c : Cn) : Addr := He.ga K c.nm

/-- the fields of own objects -/
inductive Fd where
  | own_name | own_table | own_key | own_age | own_step | so_many | allowed | cells
  | table | house_keys | bounds | first_keys | least_age | entries | rows
  | closed | doors | buttons | kept | opened
  | row | led | answers | numbers | late | level | met
  | place
  deriving DecidableEq
def Fd.nm : Fd → Str
  | .own_name => "own_name" | .own_table => "own_table" | .own_key => "own_key" | .own_age => "own_age" | .own_step => "own_step" | .so_many => "so_many" | .allowed => "allowed" | .cells => "cells"
  | .table => "table" | .house_keys => "house_keys" | .bounds => "bounds" | .first_keys => "first_keys" | .least_age => "least_age" | .entries => "entries" | .rows => "rows"
  | .closed => "closed" | .doors => "doors" | .buttons => "buttons" | .kept => "kept" | .opened => "opened"
  | .row => "row" | .led => "led" | .answers => "answers" | .numbers => "numbers" | .late => "late" | .level => "level" | .met => "met"
  | .place => "place"
def Fd.all : List Fd := [.own_name, .own_table, .own_key, .own_age, .own_step, .so_many, .allowed, .cells, .table, .house_keys, .bounds, .first_keys, .least_age, .entries, .rows, .closed, .doors, .buttons, .kept, .opened, .row, .led, .answers, .numbers, .late, .level, .met, .place]
def Cn.sub (c c' : Cn) : Bool := decide (c = c') || decide (c' = .CodeError)
/-- those with an __init__ of their own, and its field -/
def Cn.ini : Cn → Option Fd
  | .BadPress => some .place | .BadLog => some .row | .BadRow => some .row
  | _ => none
def oexB (K : PySem.W.Frag) (C : Addr) : Bool := (match K.lookup C with
  | some ⟨.type "type", _, .cls cd, sl⟩ => (match cd.mro, sl.toList with
    | .ref C' :: bm, [_, _, _, _, some (.builtin n), _] => C' == C && (n == "ValueError.__new__" && (!cd.hasDel && (cd.hasDict && PySem.HandSPX.refsVE bm)))
    | _, _ => false)
  | _ => false) && (decide (PySem.W.findIn K (.ref C) "__setattr__" = some (some (.builtin "object.__setattr__"))) && (decide (PySem.W.subIn K (.ref C) (.type "BaseException") = some true) && (decide (PySem.W.typeIn K (.ref C) = some (.type "type")) && PySem.W.keepIn K (.ref C))))
def exc1B (K : PySem.W.Frag) (c : Cn) : Bool :=
  (decide (PySem.W.findIn K (.ref (c.ad K)) "__getattribute__" = some (some (.builtin "BaseException.__getattribute__"))) && (decide (PySem.W.findIn K (.ref (c.ad K)) "__getattr__" = some none) &&
  (decide (PySem.W.subIn K (.ref (c.ad K)) (.type "BaseException") = some true) && (PySem.W.hasDictIn K (c.ad K) && (decide (PySem.W.findIn K (.ref (c.ad K)) "__class__" = some (some (.builtin "object.__class__"))) &&
  (decide (PySem.W.specialIn K (.builtin "object.__class__") "__get__" = some (some (.builtin "getset_descriptor.__get__"))) && (decide (PySem.W.takesIn K (.builtin "object.__class__") = some true) && decide (PySem.W.mroIn K (c.ad K) (.type "object") = some true)))))))) &&
  (decide (PySem.W.findIn K (.ref (c.ad K)) "place" = some none) && (decide (PySem.W.findIn K (.ref (c.ad K)) "row" = some none) && (decide (PySem.W.typeIn K (.ref (c.ad K)) = some (.type "type")) && (PySem.W.keepIn K (.ref (c.ad K)) &&
  (decide (PySem.W.kitOne K (.ref (c.ad K)) (.type "ValueError") = some true) && (match c.ini with
  | none => PySem.W.excIn K (c.ad K) He.veBase "ValueError.__new__"
  | some _ => oexB K (c.ad K) && (decide (PySem.W.findIn K (.ref (c.ad K)) "__init__" = some (some (.ref (He.fAd K (c.nm, some "__init__"))))) && decide (PySem.W.typeIn K (.ref (He.fAd K (c.nm, some "__init__"))) = some (.type "function")))))))))
def exfB (cs : List Cn) (K : PySem.W.Frag) : Bool := cs.all (fun c => exc1B K c) && (cs.all (fun c => cs.all fun c' => decide (PySem.W.kitOne K (.ref (c.ad K)) (.ref (c'.ad K)) = some (c.sub c')) && decide (PySem.W.exmOne K (.ref (c.ad K)) (.ref (c'.ad K)) = some (c.sub c'))) &&
  (PySem.W.readsIn K (Cn.CodeError.ad K) (.type "type") && (decide (PySem.W.specialIn K (.ref (Cn.CodeError.ad K)) "__getattribute__" = some (some (.builtin "type.__getattribute__"))) &&
    (match PySem.W.findCls K (.ref (Cn.CodeError.ad K)) (.type "type") "__init__" with
    | some (.val v) => decide (v = .builtin "ValueError.__init__")
    | _ => false))))
/-! ### the row's head with more looks -/
section
open He
abbrev AlX : Type := AlD × Bool
def obsX (fa : List Fa) (fn : List DefD) (qs : List (PySem.W.Frag → Bool)) (K : PySem.W.Frag) : AlX := (obsD fa fn K, qs.all fun q => q K)
def valX (fn : List DefD) : AlX := (valD fn, true)
def SaysX (fa : List Fa) (fn : List DefD) (qs : List (PySem.W.Frag → Bool)) (K : PySem.W.Frag) : Prop := obsX fa fn qs K = valX fn
def obsXG (n : Nat) (fa : List Fa) (fn : List DefD) (qs : List (PySem.W.Frag → Bool)) (g : Addr → Option Obj) : AlX := obsX fa fn qs (frG g (cStatics :: asD g n))
def hookX (n : Nat) (fa : List Fa) (fn : List DefD) (qs : List (PySem.W.Frag → Bool)) : PySem.W.Hook where
  α := AlX
  obs := fun s => obsXG n fa fn qs s.heap.get?
  val := fun _ => valX fn
  says := fun _ h => ∃ K : PySem.W.Frag, K.In h ∧ SaysX fa fn qs K
  of := fun _ _ e => ⟨_, frG_in, e⟩
  keeps := fun _ _ _ ⟨K, hK, c⟩ k => ⟨K, PySem.W.Frag.In.keeps hK k, c⟩
theorem obsXG_eq {n : Nat} {fa : List Fa} {fn : List DefD} {qs : List (PySem.W.Frag → Bool)} {g : Addr → Option Obj} {s : Shared} (h : ∀ a, g a = s.heap.get? a) : obsXG n fa fn qs g = (hookX n fa fn qs).obs s := by
  have e : g = s.heap.get? := funext h
  rw [e] <;> rfl
variable {fa : List Fa} {fn : List DefD} {qs : List (PySem.W.Frag → Bool)} {K : PySem.W.Frag}
theorem SaysX.d (c : SaysX fa fn qs K) : SaysD fa fn K := congrArg (fun z : AlX => z.1) c
theorem SaysX.q (c : SaysX fa fn qs K) (i : Nat) {q : PySem.W.Frag → Bool} (h : qs[i]? = some q := by rfl) : q K = true := by
  have c1 : (qs.all fun q => q K) = true := congrArg (fun z : AlX => z.2) c
  exact List.all_eq_true.mp c1 q (List.mem_of_getElem? h)
end
/-! ### .. and tables of the top with text keys -/
/-- constants of the top -/
inductive Cv where
  | int (i : Int) | str (z : Str) | tup (xs : List Cv)
mutual
def Cv.b (K : PySem.W.Frag) : Cv → Value → Bool
  | .int i, .int j _ => decide (j = i)
  | .str z, .str y _ => decide (y = z)
  | .tup cs, .ref a => (match K.lookup a with
    | some ⟨.type c, _, .seq its _, _⟩ => decide (c = "tuple") && (decide (its.size ≤ 1000) && Cv.bs K cs its.toList)
    | _ => false)
  | _, _ => false
def Cv.bs (K : PySem.W.Frag) : List Cv → List Value → Bool
  | [], [] => true
  | c :: cs, v :: vs => Cv.b K c v && Cv.bs K cs vs
  | _, _ => false
end
/-- the table's values, by key -/
def tabB (x : Str) (t : List (Str × Cv)) (K : PySem.W.Frag) : Bool := t.all fun q => match PySem.W.nsIn K (He.ga K x) q.1 with
  | some (some u) => q.2.b K u
  | _ => false
/-- a tuple of the top -/
def tupB (x : Str) (c : Cv) (K : PySem.W.Frag) : Bool := match PySem.W.nsIn K mainGlobals x with
  | some (some u) => c.b K u
  | _ => false
section
open He
abbrev AlY : Type := AlX × List (Option (List (Option (Str × Int))))
def obsY (fa : List Fa) (fn : List DefD) (qs : List (PySem.W.Frag → Bool)) (ts : List Tab) (K : PySem.W.Frag) : AlY := (obsX fa fn qs K, ts.map fun t => dicW K (t.1 K))
def valY (fn : List DefD) (ts : List Tab) (w : World) : AlY := (valX fn, ts.map fun t => some (keysIn w.params t.2))
def SaysY (fa : List Fa) (fn : List DefD) (qs : List (PySem.W.Frag → Bool)) (ts : List Tab) (w : World) (K : PySem.W.Frag) : Prop := obsY fa fn qs ts K = valY fn ts w
def obsYG (n : Nat) (fa : List Fa) (fn : List DefD) (qs : List (PySem.W.Frag → Bool)) (ts : List Tab) (g : Addr → Option Obj) : AlY := obsY fa fn qs ts (frG g (cStatics :: asD g n))
def hookY (n : Nat) (fa : List Fa) (fn : List DefD) (qs : List (PySem.W.Frag → Bool)) (ts : List Tab) : PySem.W.Hook where
  α := AlY
  obs := fun s => obsYG n fa fn qs ts s.heap.get?
  val := fun w => valY fn ts w
  says := fun w h => ∃ K : PySem.W.Frag, K.In h ∧ SaysY fa fn qs ts w K
  of := fun _ _ e => ⟨_, frG_in, e⟩
  keeps := fun _ _ _ ⟨K, hK, c⟩ k => ⟨K, PySem.W.Frag.In.keeps hK k, c⟩
theorem obsYG_eq {n : Nat} {fa : List Fa} {fn : List DefD} {qs : List (PySem.W.Frag → Bool)} {ts : List Tab} {g : Addr → Option Obj} {s : Shared} (h : ∀ a, g a = s.heap.get? a) : obsYG n fa fn qs ts g = (hookY n fa fn qs ts).obs s := by
  have e : g = s.heap.get? := funext h
  rw [e] <;> rfl
variable {fa : List Fa} {fn : List DefD} {qs : List (PySem.W.Frag → Bool)} {ts : List Tab} {w : World} {K : PySem.W.Frag}
theorem SaysY.x (c : SaysY fa fn qs ts w K) : SaysX fa fn qs K := congrArg (fun z : AlY => z.1) c
theorem SaysY.d (c : SaysY fa fn qs ts w K) : SaysD fa fn K := c.x.d
theorem SaysY.q (c : SaysY fa fn qs ts w K) (i : Nat) {q : PySem.W.Frag → Bool} (h : qs[i]? = some q := by rfl) : q K = true := c.x.q i h
/-- a table stands, with these keys -/
def Kt (K : PySem.W.Frag) (w : World) (a : Addr) (ks : List Str) : Prop := ∃ es n, KDict K w a es n ∧ es.toList.map He.keyOf = keysIn w.params ks
theorem SaysY.tab (c : SaysY fa fn qs ts w K) (i : Nat) {t : Tab} (h : ts[i]? = some t := by rfl) : Kt K w (t.1 K) t.2 := by
  have e : ts.map (fun t => dicW K (t.1 K)) = ts.map fun t => some (keysIn w.params t.2) := congrArg (fun z : AlY => z.2) c
  have e2 : (ts.map fun t => dicW K (t.1 K))[i]? = (ts.map fun t => some (keysIn w.params t.2))[i]? := by rw [e]
  rw [List.getElem?_map, List.getElem?_map, h] at e2
  have e3 : dicW K (t.1 K) = some (keysIn w.params t.2) := Option.some.inj e2
  obtain ⟨es, n, k⟩ := dicW_ok e3
  refine ⟨es, n, k, ?_⟩
  unfold dicW at e3
  rw [k.at_] at e3
  dsimp only at e3
  split at e3
  · exact Option.some.inj e3
  · cases e3
end
end VL


set_option Elab.async false
set_option linter.all false
set_option maxRecDepth 100000
set_option maxHeartbeats 4000000
namespace VL.Ok03
open PySem PySem.Spec PyProof.Rows L2

def top (i : Nat) : Stmt := PySem.Challenge.pw_rollcode_k03_tables_that_lead_back.main.body.getD i (.Pass ⟨0, 0, 0, 0⟩)
abbrev s_l_folded : Stmt := top 8
theorem sc_l_folded : FnScope ["_law_script", "_law_many", "_law_cells", "_law_k", "_law_cell"] ["_law_script", "_law_many"] (defScope s_l_folded) := ⟨rfl, rfl, rfl, by decide +kernel, rfl, by decide +kernel, by decide +kernel⟩
abbrev s_l_box : Stmt := top 6
theorem sc_l_box : FnScope ["_law_script", "_law_k", "_law_cell"] ["_law_script", "_law_k"] (defScope s_l_box) := ⟨rfl, rfl, rfl, by decide +kernel, rfl, by decide +kernel, by decide +kernel⟩
abbrev s_l_take : Stmt := top 7
theorem sc_l_take : FnScope ["_law_box_here", "_law_many", "_law_found", "_law_once"] ["_law_box_here", "_law_many"] (defScope s_l_take) := ⟨rfl, rfl, rfl, by decide +kernel, rfl, by decide +kernel, by decide +kernel⟩
abbrev s_l_table : Stmt := top 9
theorem sc_l_table : FnScope ["_law_box_here", "_law_made", "_law_place", "_law_other"] ["_law_box_here"] (defScope s_l_table) := ⟨rfl, rfl, rfl, by decide +kernel, rfl, by decide +kernel, by decide +kernel⟩
abbrev s_back_table : Stmt := top 4
theorem sc_back_table : FnScope ["table", "back", "place", "digit"] ["table"] (defScope s_back_table) := ⟨rfl, rfl, rfl, by decide +kernel, rfl, by decide +kernel, by decide +kernel⟩
abbrev s_l_is : Stmt := top 10
theorem sc_l_is : FnScope ["_law_found", "_law_due", "_law_one", "_law_other"] ["_law_found", "_law_due"] (defScope s_l_is) := ⟨rfl, rfl, rfl, by decide +kernel, rfl, by decide +kernel, by decide +kernel⟩
abbrev s_is_digit : Stmt := top 2
theorem sc_is_digit : FnScope ["thing"] ["thing"] (defScope s_is_digit) := ⟨rfl, rfl, rfl, by decide +kernel, rfl, by decide +kernel, by decide +kernel⟩
abbrev s_is_table : Stmt := top 3
theorem sc_is_table : FnScope ["thing", "digit"] ["thing"] (defScope s_is_table) := ⟨rfl, rfl, rfl, by decide +kernel, rfl, by decide +kernel, by decide +kernel⟩
abbrev s_law : Stmt := top 11
theorem sc_law : FnScope ["_law_script", "_law_cells", "_law_k", "_law_box_here", "_law_table_here", "_law_handed", "_law_due", "_law_found", "_law_digit"] ["_law_script"] (defScope s_law) := ⟨rfl, rfl, rfl, by decide +kernel, rfl, by decide +kernel, by decide +kernel⟩
def loose0 : List Str := ["DIGITS", "is_digit", "is_table", "back_table", "_law_box", "_law_take", "_law_folded", "_law_table", "_law_is"]
def loose : List Str := loose0
def fa0 : List He.Fa := [.free "abs", .free "all", .free "bool", .free "divmod", .free "enumerate", .free "int", .free "isinstance", .free "len", .free "list", .free "max", .free "range", .free "set", .free "str", .free "tuple", .free "zip", .glo "_law_box", .glo "_law_folded", .glo "_law_is", .glo "_law_table", .glo "_law_take", .glo "back_table", .glo "is_digit", .glo "is_table", .glo "law", .int "DIGITS" 16]
def fa : List He.Fa := fa0
def fn0 : List He.DefD := [⟨("_law_folded", none), "_law_folded", "_law_folded", defArgs s_l_folded, defBody s_l_folded, defScope s_l_folded, [], []⟩, ⟨("_law_box", none), "_law_box", "_law_box", defArgs s_l_box, defBody s_l_box, defScope s_l_box, [], []⟩, ⟨("_law_take", none), "_law_take", "_law_take", defArgs s_l_take, defBody s_l_take, defScope s_l_take, [], []⟩, ⟨("_law_table", none), "_law_table", "_law_table", defArgs s_l_table, defBody s_l_table, defScope s_l_table, [], []⟩, ⟨("back_table", none), "back_table", "back_table", defArgs s_back_table, defBody s_back_table, defScope s_back_table, [], []⟩, ⟨("_law_is", none), "_law_is", "_law_is", defArgs s_l_is, defBody s_l_is, defScope s_l_is, [], []⟩, ⟨("is_digit", none), "is_digit", "is_digit", defArgs s_is_digit, defBody s_is_digit, defScope s_is_digit, [], []⟩, ⟨("is_table", none), "is_table", "is_table", defArgs s_is_table, defBody s_is_table, defScope s_is_table, [], []⟩, ⟨("law", none), "law", "law", defArgs s_law, defBody s_law, defScope s_law, [], []⟩]
def fn : List He.DefD := fn0
abbrev R : PySem.W.OpenRow := PySem.W.OpenLaw.row PySem.Challenge.rw_rollcode_k03_tables_that_lead_back
abbrev hk : PySem.W.Hook := He.hookD 5 fa fn
def ob (s : PySem.W.SharedT) : He.AlD := He.obsDG 5 fa fn (HandSHeadRun.getT s)
theorem ob_eq (s : PySem.W.SharedT) : ob s = hk.obs s.abs := He.obsDG_eq (HandSHeadRun.getT_eq s)
set_option maxHeartbeats 0 in
theorem run (w : World) : HandSHeadRun.RunEq R (PySem.W.view R.prog [11]) hk ob 20000 loose w := by
  intro os
  kernel_rfl
end VL.Ok03
section
open PySem PySem.W PySem.Calls PyProof.Rows
set_option maxRecDepth 100000 in
theorem VL.Ok03.front_d : (HandSHeadRun.topDef (PySem.W.OpenLaw.row PySem.Challenge.rw_rollcode_k03_tables_that_lead_back).prog 11).params.defaults = [] := by kernel_rfl
set_option maxRecDepth 100000 in
theorem VL.Ok03.front_n : (HandSHeadRun.topDef (PySem.W.OpenLaw.row PySem.Challenge.rw_rollcode_k03_tables_that_lead_back).prog 11).name = ("law" : PySem.Str) := by kernel_rfl
set_option maxRecDepth 100000 in
set_option maxHeartbeats 0 in
theorem VL.Ok03.front (call : PySem.W.WalkO (PySem.W.view (PySem.W.OpenLaw.row PySem.Challenge.rw_rollcode_k03_tables_that_lead_back).prog [11]) VL.Ok03.loose (PySem.W.XL (PySem.W.view (PySem.W.OpenLaw.row PySem.Challenge.rw_rollcode_k03_tables_that_lead_back).prog [11]) []) VL.Ok03.hk.says (PySem.W.OpenLaw.row PySem.Challenge.rw_rollcode_k03_tables_that_lead_back).toRowW (HandSHeadRun.topDef (PySem.W.OpenLaw.row PySem.Challenge.rw_rollcode_k03_tables_that_lead_back).prog 11) [] fun f vs => PySem.call f vs) : PySem.Challenge.rw_rollcode_k03_tables_that_lead_back.Holds := by
  w_on; o_law
  refine HandSHeadRun.head_any (r := OpenLaw.row PySem.Challenge.rw_rollcode_k03_tables_that_lead_back) (q := view (OpenLaw.row PySem.Challenge.rw_rollcode_k03_tables_that_lead_back).prog [11]) (H := VL.Ok03.hk) (ob := VL.Ok03.ob) (M := 20000) (loose := VL.Ok03.loose) (d := HandSHeadRun.topDef (OpenLaw.row PySem.Challenge.rw_rollcode_k03_tables_that_lead_back).prog 11) (kwd := []) VL.Ok03.ob_eq
    (by kernel_rfl) (fun s => by kernel_rfl) VL.Ok03.run (by kernel_rfl) (by kernel_rfl) (by kernel_rfl) (by rfl) (by first | assumption | decide +kernel) (by decide +kernel) ⟨rfl, rfl, rfl, rfl, rfl, by decide +kernel⟩ ?hw ?hc
  case hw => w_witness2
  case hc => exact call
end
namespace VL.Ok03
open PySem PySem.Spec PyProof.Rows L2
end VL.Ok03
set_option Elab.async false
set_option linter.all false
set_option maxRecDepth 100000
/-! values without addresses for tuples: what a def of the text does, told over them -/
namespace VL
open PySem PySem.Spec PyProof.Rows L2

theorem Fd.mem_all (f : Fd) : f ∈ Fd.all := by cases f <;> decide
theorem Fd.inj0 : (Fd.all.all fun f => Fd.all.all fun g => decide (f.nm = g.nm) == decide (f = g)) = true := by decide +kernel
theorem Fd.inj {f g : Fd} (h : f.nm = g.nm) : f = g := by
  have h1 := List.all_eq_true.mp (List.all_eq_true.mp Fd.inj0 f f.mem_all) g g.mem_all
  rw [decide_eq_true h] at h1
  exact of_decide_eq_true (eq_of_beq h1).symm

inductive LV where
  | non | bl (b : Bool) | int (i : Int) | str (x : Str) | ref (a : Addr) | ty (n : String) | tup (xs : List LV)
  /-- a list that is never written (the script) -/
  | rl (xs : List LV)
  /-- a caught exception, maybe with one field; an own class -/
  | exc (c : Cn) (f : Option (Fd × Int)) | cl (c : Cn)
  /-- a tuple whose object has no dict -/
  | xt (xs : List LV)

/-- what stands at an address -/
inductive LO where
  | lst (xs : List LV) | dic (kvs : List (Key × LV)) | ins (c : Cn) (fs : List (Fd × LV))
  /-- a dict that is locked while it is walked -/
  | fdi (f : Obj × List (Key × V)) (kvs : List (Key × LV))

abbrev LH := Addr → Option LO
def up (h : LH) (a : Addr) (o : LO) : LH := fun b => if b = a then some o else h b
theorem up_same {h : LH} {a : Addr} {o : LO} : up h a o a = some o := if_pos rfl
theorem up_ne {h : LH} {a b : Addr} {o : LO} (e : b ≠ a) : up h a o b = h b := if_neg e
theorem up_up {h : LH} {a : Addr} {o u : LO} : up (up h a o) a u = up h a u := by
  funext b; unfold up; split <;> rfl
theorem ne_fr {h : LH} {a b : Addr} {o : LO} (e : h a = some o) (n : h b = none) : a ≠ b := by
  rintro rfl; rw [e] at n; cases n

/-- a list that is known to the object, or stands in the written part -/
def FzL (K : PySem.W.Frag) (H : Hp) (a : Addr) (xs : List V) : Prop := (∃ o, H a = some (.frz o (.lst xs))) ∨
  ∃ (o : Obj) (its : Array Value) (n : Nat), K.lookup a = some o ∧ o.cls = .type "list" ∧ o.dict = none ∧ o.data = .seq its n ∧ its.size ≤ sizeLine ∧ Vals xs its.toList
theorem FzL.sq {K : PySem.W.Frag} {H : Hp} {a : Addr} {xs : List V} (h : FzL K H a xs) : SqL K H a xs := by
  rcases h with h | h
  · exact .inl (.inr h)
  · exact .inr h
/-- a tuple whose object is known: it has no dict -/
def FzT (H : Hp) (a : Addr) (xs : List V) : Prop := ∃ o : Obj, H a = some (.frz o (.tup xs)) ∧ o.dict = none
theorem FzT.sq {K : PySem.W.Frag} {H : Hp} {a : Addr} {xs : List V} (h : FzT H a xs) : SqT K H a xs := .inl (.inr ⟨_, h.choose_spec.1⟩)
/-- at a: a caught exception of the class at C, its dict at d -/
def exT (a C : Addr) (d : Option Addr) : HO := .ext fun h => ∃ (o : Obj) (vs : Array Value), h.get? a = some o ∧ o.cls = .ref C ∧ o.dict = d ∧ o.data = .fields vs
def XdA (H : Hp) : Option Addr → Option (Fd × Int) → Prop
  | none, f => f = none
  | some d, f => ∃ ws, H d = some (.xd ws) ∧ ∀ g i, f = some (g, i) → ws.lookup g.nm = some (.int i)
def ExA (K : PySem.W.Frag) (H : Hp) (a : Addr) (c : Cn) (f : Option (Fd × Int)) : Prop := ∃ d, H a = some (exT a (c.ad K) d) ∧ XdA H d f
mutual
inductive RV (K : PySem.W.Frag) (H : Hp) : LV → V → Prop
  | non : RV K H .non .non
  | bl (b : Bool) : RV K H (.bl b) (.bl b)
  | int (i : Int) : RV K H (.int i) (.int i)
  | str (x : Str) : RV K H (.str x) (.str x)
  | ref (a : Addr) : RV K H (.ref a) (.ref a)
  | ty (n : String) : RV K H (.ty n) (.ty n)
  | tup {a : Addr} {xs : List LV} {vs : List V} : SqT K H a vs → RVs K H xs vs → RV K H (.tup xs) (.ref a)
  | rl {a : Addr} {xs : List LV} {vs : List V} : FzL K H a vs → RVs K H xs vs → RV K H (.rl xs) (.ref a)
  | exc {a : Addr} {c : Cn} {f : Option (Fd × Int)} : ExA K H a c f → RV K H (.exc c f) (.ref a)
  | cl (c : Cn) : RV K H (.cl c) (.ref (c.ad K))
  | xt {a : Addr} {xs : List LV} {vs : List V} : FzT H a vs → RVs K H xs vs → RV K H (.xt xs) (.ref a)
inductive RVs (K : PySem.W.Frag) (H : Hp) : List LV → List V → Prop
  | nil : RVs K H [] []
  | cons {x : LV} {v : V} {xs : List LV} {vs : List V} : RV K H x v → RVs K H xs vs → RVs K H (x :: xs) (v :: vs)
end
inductive RKs (K : PySem.W.Frag) (H : Hp) {α β : Type} (n : α → β) : List (α × LV) → List (β × V) → Prop
  | nil : RKs K H n [] []
  | cons {k : α} {x : LV} {v : V} {l : List (α × LV)} {m : List (β × V)} : RV K H x v → RKs K H n l m → RKs K H n ((k, x) :: l) ((n k, v) :: m)
/-- slots -/
inductive RS (K : PySem.W.Frag) (H : Hp) : List (Option LV) → List (Option V) → Prop
  | nil : RS K H [] []
  | un {xs : List (Option LV)} {vs : List (Option V)} {o : Option V} : RS K H xs vs → RS K H (none :: xs) (o :: vs)
  | at {x : LV} {v : V} {xs : List (Option LV)} {vs : List (Option V)} : RV K H x v → RS K H xs vs → RS K H (some x :: xs) (some v :: vs)

/-- the tuples stand -/
structure TLe (K : PySem.W.Frag) (H H' : Hp) : Prop where
  t : ∀ a vs, SqT K H a vs → SqT K H' a vs
  l : ∀ a vs, FzL K H a vs → FzL K H' a vs
  x : ∀ a fs, H a = some (.xd fs) → H' a = some (.xd fs)
  e : ∀ a φ, H a = some (.ext φ) → H' a = some (.ext φ)
  f : ∀ a vs, FzT H a vs → FzT H' a vs
theorem XdA.mono {K : PySem.W.Frag} {H H' : Hp} (t : TLe K H H') {f : Option (Fd × Int)} : ∀ {d : Option Addr}, XdA H d f → XdA H' d f
  | none, h => h
  | some _, ⟨ws, h1, h2⟩ => ⟨ws, t.x _ _ h1, h2⟩
theorem ExA.mono {K : PySem.W.Frag} {H H' : Hp} (t : TLe K H H') {a : Addr} {c : Cn} {f : Option (Fd × Int)} : ExA K H a c f → ExA K H' a c f := fun ⟨d, h1, h2⟩ => ⟨d, t.e _ _ h1, h2.mono t⟩
section
variable {K : PySem.W.Frag} {H H1 H2 : Hp}
theorem TLe.refl (H : Hp) : TLe K H H := ⟨fun _ _ h => h, fun _ _ h => h, fun _ _ h => h, fun _ _ h => h, fun _ _ h => h⟩
theorem TLe.trans (a : TLe K H H1) (b : TLe K H1 H2) : TLe K H H2 := ⟨fun x vs h => b.t x vs (a.t x vs h), fun x vs h => b.l x vs (a.l x vs h), fun x vs h => b.x x vs (a.x x vs h), fun x vs h => b.e x vs (a.e x vs h), fun x vs h => b.f x vs (a.f x vs h)⟩
/-- an object changes that is no tuple and not locked, or one is new -/
theorem TLe.upd {a : Addr} {o : HO} (n : ∀ vs, ¬ H a = some (.tup vs)) (n2 : ∀ ob u, ¬ H a = some (.frz ob u)) (n3 : ∀ fs, ¬ H a = some (.xd fs)) (n4 : ∀ φ, ¬ H a = some (.ext φ)) : TLe K H (upd H a o) := ⟨fun b vs h => by
  rcases h with h | h
  · by_cases e : b = a
    · subst e
      rcases h with h | ⟨ob, h⟩
      · exact absurd h (n vs)
      · exact absurd h (n2 ob _)
    · refine .inl ?_
      rcases h with h | ⟨ob, h⟩
      · exact .inl (by rw [upd_ne e]; exact h)
      · exact .inr ⟨ob, by rw [upd_ne e]; exact h⟩
  · exact .inr h, fun b vs h => by
  rcases h with ⟨ob, h⟩ | h
  · by_cases e : b = a
    · subst e
      exact absurd h (n2 ob _)
    · exact .inl ⟨ob, by rw [upd_ne e]; exact h⟩
  · exact .inr h, fun b fs h => by
  by_cases e : b = a
  · subst e; exact absurd h (n3 fs)
  · rw [upd_ne e]; exact h, fun b φ h => by
  by_cases e : b = a
  · subst e; exact absurd h (n4 φ)
  · rw [upd_ne e]; exact h, fun b vs ⟨ob, h, hd⟩ => by
  by_cases e : b = a
  · subst e; exact absurd h (n2 ob _)
  · exact ⟨ob, by rw [upd_ne e]; exact h, hd⟩⟩
theorem TLe.new {a : Addr} {o : HO} (n : H a = none) : TLe K H (L2.upd H a o) := .upd (fun vs h => by rw [n] at h; cases h) (fun ob u h => by rw [n] at h; cases h) (fun fs h => by rw [n] at h; cases h) (fun φ h => by rw [n] at h; cases h)
mutual
theorem RV.mono (t : TLe K H H1) : ∀ {x : LV} {v : V}, RV K H x v → RV K H1 x v
  | .non, _, .non => .non
  | .bl _, _, .bl b => .bl b
  | .int _, _, .int i => .int i
  | .str _, _, .str x => .str x
  | .ref _, _, .ref a => .ref a
  | .ty _, _, .ty n => .ty n
  | .tup _, _, .tup h r => .tup (t.t _ _ h) (RVs.mono t r)
  | .rl _, _, .rl h r => .rl (t.l _ _ h) (RVs.mono t r)
  | .exc _ _, _, .exc h => .exc (h.mono t)
  | .cl _, _, .cl c => .cl c
  | .xt _, _, .xt h r => .xt (t.f _ _ h) (RVs.mono t r)
theorem RVs.mono (t : TLe K H H1) : ∀ {xs : List LV} {vs : List V}, RVs K H xs vs → RVs K H1 xs vs
  | [], _, .nil => .nil
  | _ :: _, _, .cons a b => .cons (RV.mono t a) (RVs.mono t b)
end
theorem RKs.mono {α β : Type} {n : α → β} (t : TLe K H H1) : ∀ {xs : List (α × LV)} {vs : List (β × V)}, RKs K H n xs vs → RKs K H1 n xs vs
  | [], _, .nil => .nil
  | _ :: _, _, .cons a b => .cons (a.mono t) (RKs.mono t b)
theorem RS.mono (t : TLe K H H1) : ∀ {xs : List (Option LV)} {vs : List (Option V)}, RS K H xs vs → RS K H1 xs vs
  | [], _, .nil => .nil
  | _ :: _, _, .un b => .un (RS.mono t b)
  | _ :: _, _, .at a b => .at (a.mono t) (RS.mono t b)
theorem RVs.length : ∀ {xs : List LV} {vs : List V}, RVs K H xs vs → xs.length = vs.length
  | [], _, .nil => rfl
  | _ :: _, _, .cons _ b => congrArg (· + 1) (RVs.length b)
theorem RVs.get : ∀ {xs : List LV} {vs : List V} {i : Nat} {x : LV}, RVs K H xs vs → xs[i]? = some x → ∃ v, vs[i]? = some v ∧ RV K H x v
  | _, _, _, _, .nil, e => by simp at e
  | _, _, 0, _, .cons a _, e => by simp at e; subst e; exact ⟨_, rfl, a⟩
  | _, _, i + 1, x, .cons _ b, e => by
    obtain ⟨v, h1, h2⟩ := RVs.get (i := i) (x := x) b (by simpa using e)
    exact ⟨v, by simpa using h1, h2⟩
theorem RVs.append : ∀ {xs ys : List LV} {vs ws : List V}, RVs K H xs vs → RVs K H ys ws → RVs K H (xs ++ ys) (vs ++ ws)
  | _, _, _, _, .nil, s => s
  | _, _, _, _, .cons r t, s => .cons r (RVs.append t s)
theorem RVs.set {x : LV} {v : V} (r : RV K H x v) : ∀ {xs : List LV} {vs : List V} (i : Nat), RVs K H xs vs → RVs K H (xs.set i x) (vs.set i v)
  | _, _, _, .nil => .nil
  | _, _, 0, .cons _ t => .cons r t
  | _, _, i + 1, .cons q t => .cons q (RVs.set r i t)
theorem RVs.take : ∀ {xs : List LV} {vs : List V} (n : Nat), RVs K H xs vs → RVs K H (xs.take n) (vs.take n)
  | _, _, 0, _ => .nil
  | _, _, _ + 1, .nil => .nil
  | _, _, n + 1, .cons r t => .cons r (RVs.take n t)
theorem RVs.drop : ∀ {xs : List LV} {vs : List V} (n : Nat), RVs K H xs vs → RVs K H (xs.drop n) (vs.drop n)
  | _, _, 0, r => r
  | _, _, _ + 1, .nil => .nil
  | _, _, n + 1, .cons _ t => RVs.drop n t
theorem RVs.eraseIdx : ∀ {xs : List LV} {vs : List V} (n : Nat), RVs K H xs vs → RVs K H (xs.eraseIdx n) (vs.eraseIdx n)
  | _, _, _, .nil => .nil
  | _, _, 0, .cons _ t => t
  | _, _, n + 1, .cons r t => .cons r (RVs.eraseIdx n t)
theorem RVs.dropLast {xs : List LV} {vs : List V} (r : RVs K H xs vs) : RVs K H xs.dropLast vs.dropLast := by
  rw [List.dropLast_eq_take, List.dropLast_eq_take, r.length]
  exact r.take _
theorem RVs.reverse : ∀ {xs : List LV} {vs : List V}, RVs K H xs vs → RVs K H xs.reverse vs.reverse
  | _, _, .nil => .nil
  | _, _, .cons r t => by
    rw [List.reverse_cons, List.reverse_cons]
    exact (RVs.reverse t).append (.cons r .nil)
theorem RVs.rep {xs : List LV} {vs : List V} (r : RVs K H xs vs) : ∀ n : Nat, RVs K H (List.replicate n xs).flatten (List.replicate n vs).flatten
  | 0 => .nil
  | n + 1 => by
    rw [List.replicate_succ, List.replicate_succ, List.flatten_cons, List.flatten_cons]
    exact r.append (RVs.rep r n)
theorem RVs.ints : ∀ (ns : List Int), RVs K H (ns.map LV.int) (ns.map V.int)
  | [] => .nil
  | _ :: r => .cons (.int _) (RVs.ints r)
theorem RVs.to_ints : ∀ {ns : List Int} {vs : List V}, RVs K H (ns.map LV.int) vs → vs = ns.map V.int
  | [], _, .nil => rfl
  | _ :: r, _, .cons (.int _) t => by rw [RVs.to_ints t]; rfl
theorem RVs.strs : ∀ (ns : List Str), RVs K H (ns.map LV.str) (ns.map V.str)
  | [] => .nil
  | _ :: r => .cons (.str _) (RVs.strs r)
theorem RVs.to_strs : ∀ {ns : List Str} {vs : List V}, RVs K H (ns.map LV.str) vs → vs = ns.map V.str
  | [], _, .nil => rfl
  | _ :: r, _, .cons (.str _) t => by rw [RVs.to_strs t]; rfl
theorem RVs.to_bls : ∀ {ns : List Bool} {vs : List V}, RVs K H (ns.map LV.bl) vs → vs = ns.map V.bl
  | [], _, .nil => rfl
  | _ :: r, _, .cons (.bl _) t => by rw [RVs.to_bls t]; rfl
theorem RS.length : ∀ {xs : List (Option LV)} {vs : List (Option V)}, RS K H xs vs → xs.length = vs.length
  | [], _, .nil => rfl
  | _ :: _, _, (.un b) => congrArg (· + 1) (RS.length b)
  | _ :: _, _, (.at _ b) => congrArg (· + 1) (RS.length b)
theorem RS.get : ∀ {xs : List (Option LV)} {vs : List (Option V)} {i : Nat} {x : LV}, RS K H xs vs → xs[i]? = some (some x) → ∃ v, vs[i]? = some (some v) ∧ RV K H x v
  | _, _, _, _, .nil, e => by simp at e
  | _, _, 0, _, (.un _), e => by simp at e
  | _, _, 0, _, (.at a _), e => by simp at e; subst e; exact ⟨_, rfl, a⟩
  | _, _, i + 1, x, (.un b), e => by
    obtain ⟨v, h1, h2⟩ := RS.get (i := i) (x := x) b (by simpa using e)
    exact ⟨v, by simpa using h1, h2⟩
  | _, _, i + 1, x, (.at _ b), e => by
    obtain ⟨v, h1, h2⟩ := RS.get (i := i) (x := x) b (by simpa using e)
    exact ⟨v, by simpa using h1, h2⟩
theorem RS.set {x : LV} {v : V} (r : RV K H x v) : ∀ {xs : List (Option LV)} {vs : List (Option V)} (i : Nat), RS K H xs vs → RS K H (xs.set i (some x)) (vs.set i (some v))
  | _, _, _, .nil => .nil
  | _, _, 0, .un t => .at r t
  | _, _, 0, .at _ t => .at r t
  | _, _, i + 1, .un t => .un (RS.set r i t)
  | _, _, i + 1, .at q t => .at q (RS.set r i t)
theorem RS.clear : ∀ {xs : List (Option LV)} {vs : List (Option V)} (i : Nat), RS K H xs vs → RS K H (xs.set i none) (vs.set i none)
  | _, _, _, .nil => .nil
  | _, _, 0, .un t => .un t
  | _, _, 0, .at _ t => .un t
  | _, _, i + 1, .un t => .un (RS.clear i t)
  | _, _, i + 1, .at q t => .at q (RS.clear i t)
theorem RS.args {N : List Str} : ∀ {xs : List LV} {vs : List V}, RVs K H xs vs → RS K H (xs.map some) (vs.map some)
  | [], _, .nil => .nil
  | _ :: _, _, .cons a b => .at a (RS.args (N := N) b)
theorem RS.append : ∀ {xs ys : List (Option LV)} {vs ws : List (Option V)}, RS K H xs vs → RS K H ys ws → RS K H (xs ++ ys) (vs ++ ws)
  | _, _, _, _, .nil, s => s
  | _, _, _, _, .un t, s => .un (RS.append t s)
  | _, _, _, _, .at r t, s => .at r (RS.append t s)
theorem RS.nones : ∀ n : Nat, RS K H (List.replicate n none) (List.replicate n none)
  | 0 => .nil
  | n + 1 => .un (RS.nones n)
end

/-- a dict's, an object's values -/
def fget (fs : List (Fd × LV)) (f : Fd) : Option LV := match fs with
  | [] => none
  | (g, x) :: r => if f = g then some x else fget r f
def fput (f : Fd) (x : LV) (fs : List (Fd × LV)) : List (Fd × LV) := match fs with
  | [] => [(f, x)]
  | (g, y) :: r => if g = f then (g, x) :: r else (g, y) :: fput f x r
def dget (kvs : List (Key × LV)) (k : Key) : Option LV := (kvs.find? fun kv => decide (kv.1 = k)).map (·.2)
def dput (kvs : List (Key × LV)) (k : Key) (x : LV) : List (Key × LV) :=
  if (kvs.any fun kv => decide (kv.1 = k)) = true then kvs.map (fun kv => if kv.1 = k then (kv.1, x) else kv) else kvs ++ [(k, x)]
def ddrop (kvs : List (Key × LV)) (k : Key) : List (Key × LV) := kvs.filter fun kv => decide (kv.1 ≠ k)

section
variable {K : PySem.W.Frag} {H : Hp}
theorem RKs.length {α β : Type} {n : α → β} : ∀ {xs : List (α × LV)} {vs : List (β × V)}, RKs K H n xs vs → xs.length = vs.length
  | [], _, .nil => rfl
  | _ :: _, _, .cons _ b => congrArg (· + 1) (RKs.length b)
theorem RKs.fget : ∀ {xs : List (Fd × LV)} {vs : List (Str × V)} {f : Fd} {x : LV}, RKs K H Fd.nm xs vs → fget xs f = some x → ∃ v, vs.lookup f.nm = some v ∧ RV K H x v
  | _, _, _, _, .nil, e => by cases e
  | (g, y) :: r, _, f, x, .cons (v := v) (m := m) a b, e => by
    unfold VL.fget at e
    by_cases q : f = g
    · rw [if_pos q] at e
      cases e
      subst q
      refine ⟨v, ?_, a⟩
      rw [List.lookup_cons, show (f.nm == f.nm) = true from beq_self_eq_true _]
    · rw [if_neg q] at e
      obtain ⟨w, h1, h2⟩ := RKs.fget b e
      refine ⟨w, ?_, h2⟩
      have z : (f.nm == g.nm) = false := by
        cases z : (f.nm == g.nm) with
        | false => rfl
        | true => exact absurd (Fd.inj (eq_of_beq z)) q
      rw [List.lookup_cons, z]
      exact h1
theorem RKs.fnone : ∀ {xs : List (Fd × LV)} {vs : List (Str × V)} {m : Str}, RKs K H Fd.nm xs vs → (∀ f : Fd, f.nm ≠ m) → vs.lookup m = none
  | _, _, _, .nil, _ => rfl
  | (g, y) :: r, _, m, .cons (v := v) (m := w) a b, e => by
    have z : (m == g.nm) = false := by
      cases z : (m == g.nm) with
      | false => rfl
      | true => exact absurd (eq_of_beq z).symm (e g)
    rw [List.lookup_cons, z]
    exact RKs.fnone b e
theorem RKs.fput {f : Fd} {x : LV} {v : V} (a : RV K H x v) : ∀ {xs : List (Fd × LV)} {vs : List (Str × V)}, RKs K H Fd.nm xs vs → RKs K H Fd.nm (fput f x xs) (putF f.nm v vs)
  | [], _, .nil => .cons a .nil
  | (g, y) :: r, _, .cons (v := w) (m := m) b c => by
    show RKs K H Fd.nm (if g = f then (g, x) :: r else (g, y) :: VL.fput f x r) (if g.nm = f.nm then (g.nm, v) :: m else (g.nm, w) :: putF f.nm v m)
    by_cases q : g = f
    · rw [if_pos q, if_pos (by rw [q])]
      exact .cons a c
    · rw [if_neg q, if_neg (fun z => q (Fd.inj z))]
      exact .cons b (RKs.fput a c)
theorem RKs.dget {k : Key} : ∀ {xs : List (Key × LV)} {vs : List (Key × V)}, RKs K H id xs vs → (∀ x, dget xs k = some x → ∃ v, valV vs k = some v ∧ RV K H x v) ∧ (dget xs k = none → valV vs k = none)
  | _, _, .nil => ⟨fun _ h => (by cases h), fun _ => rfl⟩
  | (j, y) :: r, _, .cons (v := v) (m := m) a b => by
    obtain ⟨h1, h2⟩ := RKs.dget (k := k) b
    by_cases q : j = k
    · refine ⟨fun x e => ?_, fun e => ?_⟩
      · have z : VL.dget ((j, y) :: r) k = some y := by simp [VL.dget, q]
        rw [z] at e
        cases e
        exact ⟨v, valV_pos q, a⟩
      · have z : VL.dget ((j, y) :: r) k = some y := by simp [VL.dget, q]
        rw [z] at e
        cases e
    · have z : VL.dget ((j, y) :: r) k = VL.dget r k := by simp [VL.dget, q]
      rw [z]
      have z2 : valV ((id j, v) :: m) k = valV m k := valV_neg q
      rw [z2]
      exact ⟨h1, h2⟩
theorem RKs.any {k : Key} : ∀ {xs : List (Key × LV)} {vs : List (Key × V)}, RKs K H id xs vs → (xs.any fun kv => decide (kv.1 = k)) = (vs.any fun kv => decide (kv.1 = k))
  | _, _, .nil => rfl
  | (j, y) :: r, _, .cons (v := v) (m := m) a b => by
    rw [List.any_cons, List.any_cons, RKs.any b]
    rfl
theorem RKs.append {α β : Type} {n : α → β} : ∀ {xs ys : List (α × LV)} {vs ws : List (β × V)}, RKs K H n xs vs → RKs K H n ys ws → RKs K H n (xs ++ ys) (vs ++ ws)
  | _, _, _, _, .nil, s => s
  | _, _, _, _, .cons r t, s => .cons r (RKs.append t s)
theorem RKs.put1 {k : Key} {x : LV} {v : V} (a : RV K H x v) : ∀ {xs : List (Key × LV)} {vs : List (Key × V)}, RKs K H id xs vs → RKs K H id (xs.map fun kv => if kv.1 = k then (kv.1, x) else kv) (vs.map fun kv => if kv.1 = k then (kv.1, v) else kv)
  | _, _, .nil => .nil
  | (j, y) :: r, _, .cons (v := w) (m := m) b c => by
    show RKs K H id ((if j = k then (j, x) else (j, y)) :: _) ((if j = k then (j, v) else (j, w)) :: _)
    by_cases q : j = k
    · rw [if_pos q, if_pos q]
      exact .cons a (RKs.put1 a c)
    · rw [if_neg q, if_neg q]
      exact .cons b (RKs.put1 a c)
theorem RKs.dput {k : Key} {x : LV} {v : V} (a : RV K H x v) {xs : List (Key × LV)} {vs : List (Key × V)} (r : RKs K H id xs vs) : RKs K H id (dput xs k x) (putK vs k v) := by
  unfold VL.dput putK
  rw [r.any]
  split
  · exact r.put1 a
  · exact r.append (.cons a .nil)
theorem RKs.ddrop {k : Key} : ∀ {xs : List (Key × LV)} {vs : List (Key × V)}, RKs K H id xs vs → RKs K H id (ddrop xs k) (dropK vs k)
  | _, _, .nil => .nil
  | (j, y) :: r, _, .cons (v := w) (m := m) b c => by
    unfold VL.ddrop dropK
    rw [List.filter_cons, List.filter_cons]
    show RKs K H id (if decide (j ≠ k) = true then _ else _) (if decide (j ≠ k) = true then _ else _)
    split
    · exact .cons b (RKs.ddrop c)
    · exact RKs.ddrop c
end
end VL

set_option Elab.async false
set_option linter.all false
set_option maxRecDepth 100000
set_option maxHeartbeats 2000000
namespace VL
open PySem PySem.Spec PyProof.Rows L2

/-- an object as it is told -/
def RO (K : PySem.W.Frag) (H : Hp) (a : Addr) : LO → Prop
  | .lst xs => ∃ vs, H a = some (.lst vs) ∧ RVs K H xs vs
  | .dic kvs => ∃ ws, H a = some (.dK ws) ∧ RKs K H id kvs ws
  | .ins c fs => ∃ dx ws, H a = some (.ins (c.ad K) dx ws) ∧ RKs K H Fd.nm fs ws
  | .fdi f kvs => H a = some (.frz f.1 (.dK f.2)) ∧ RKs K H id kvs f.2
def RH (K : PySem.W.Frag) (H : Hp) (h : LH) : Prop := ∀ a o, h a = some o → RO K H a o
section
variable {K : PySem.W.Frag} {H H' : Hp} {h : LH} {a p : Addr} {u : HO} {o : LO}
theorem RO.mkL {xs : List LV} {vs : List V} (e : H a = some (.lst vs)) (r : RVs K H xs vs) : RO K H a (.lst xs) := ⟨vs, e, r⟩
theorem RO.mkD {xs : List (Key × LV)} {vs : List (Key × V)} (e : H a = some (.dK vs)) (r : RKs K H id xs vs) : RO K H a (.dic xs) := ⟨vs, e, r⟩
theorem RO.mkI {c : Cn} {dx : Addr} {xs : List (Fd × LV)} {vs : List (Str × V)} (e : H a = some (.ins (c.ad K) dx vs)) (r : RKs K H Fd.nm xs vs) : RO K H a (.ins c xs) := ⟨dx, vs, e, r⟩
theorem RO.there (z : RO K H a o) : ∃ u, H a = some u := by
  cases o with
  | lst xs => obtain ⟨_, z, _⟩ := z; exact ⟨_, z⟩
  | dic xs => obtain ⟨_, z, _⟩ := z; exact ⟨_, z⟩
  | ins c fs => obtain ⟨_, _, z, _⟩ := z; exact ⟨_, z⟩
  | fdi f xs => exact ⟨_, z.1⟩
theorem RH.fresh (r : RH K H h) (e : H a = none) : h a = none := by
  cases q : h a with
  | none => rfl
  | some o =>
    obtain ⟨u, z⟩ := (r a o q).there
    rw [e] at z
    cases z
/-- one address changes -/
theorem RO.stay {b : Addr} (r : RO K H b o) (t : TLe K H (upd H a u)) (n : b ≠ a) : RO K (upd H a u) b o := by
  cases o with
  | lst xs => obtain ⟨vs, z, q⟩ := r; exact ⟨vs, by rw [upd_ne n]; exact z, q.mono t⟩
  | dic xs => obtain ⟨vs, z, q⟩ := r; exact ⟨vs, by rw [upd_ne n]; exact z, q.mono t⟩
  | ins c fs => obtain ⟨dx, vs, z, q⟩ := r; exact ⟨dx, vs, by rw [upd_ne n]; exact z, q.mono t⟩
  | fdi f xs => exact ⟨by rw [upd_ne n]; exact r.1, r.2.mono t⟩
theorem RH.upd (r : RH K H h) (t : TLe K H (L2.upd H a u)) (q : RO K (L2.upd H a u) a o) : RH K (L2.upd H a u) (VL.up h a o) := fun b v e => by
  by_cases n : b = a
  · subst n; rw [up_same] at e; cases e; exact q
  · rw [up_ne n] at e
    exact (r b v e).stay t n
/-- something new that is not told of -/
theorem RH.new (r : RH K H h) (n : H p = none) : RH K (L2.upd H p u) h := fun b v e => by
  obtain ⟨w, z⟩ := (r b v e).there
  exact (r b v e).stay (.new n) (ne_of_none z n)
/-- something new that is told of -/
theorem RH.lay (r : RH K H h) (n : H p = none) (q : RO K (L2.upd H p u) p o) : RH K (L2.upd H p u) (VL.up h p o) := r.upd (.new n) q
/-- less is told -/
theorem RH.sub {h' : LH} (r : RH K H h) (s : ∀ a o, h' a = some o → h a = some o) : RH K H h' := fun a o e => r a o (s a o e)
end

/-! ### readings -/
abbrev LS := List (Option LV)
abbrev LK := LV → LH → Prop
/-- what is wanted of an own exception: its class, its fields, the heap -/
abbrev LX := Cn → List (Fd × LV) → LH → Prop
abbrev X0 : LX := fun _ _ _ => False
abbrev LTE := LS → LH → LX → LK → Prop
abbrev LTT := LS → LH → LX → (Bool → LH → Prop) → Prop
abbrev LTA := LS → LH → LX → (List LV → LH → Prop) → Prop
abbrev LTO := LS → LH → LX → (Option Int → LH → Prop) → Prop
structure LEnds where
  nx : LS → LH → Prop
  rt : LK
  ex : Cn → List (Fd × LV) → LS → LH → Prop := fun _ _ _ _ => False
  bk : LS → LH → Prop := fun _ _ => False
  ct : LS → LH → Prop := fun _ _ => False
abbrev LTS := LEnds → LS → LH → Prop
/-- a def's promise -/
abbrev LSp := List LV → LH → LX → LK → Prop

def RX (K : PySem.W.Frag) (H : Hp) (fs : List (Fd × LV)) : Option Addr → Prop
  | none => fs = []
  | some d => ∃ ws, H d = some (.xd ws) ∧ RKs K H Fd.nm fs ws
def OutX (K : PySem.W.Frag) (W : WX) (σ : L2.St) (H : Hp) (E : LX) : Prop := ∀ c fs d H' h', TLe K H H' → RH K H' h' → RX K H' fs d → E c fs h' → W (.ref (c.ad K)) d σ H'
structure Sit (K : PySem.W.Frag) (W : WX) (σ : L2.St) (H : Hp) (s : LS) (h : LH) (E : LX) : Prop where
  rs : RS K H s σ
  rh : RH K H h
  ox : OutX K W σ H E
theorem Sit.step {K : PySem.W.Frag} {W : WX} {σ : L2.St} {H H' : Hp} {s : LS} {h h' : LH} {E : LX} (z : Sit K W σ H s h E) (t : TLe K H H') (r : RH K H' h') : Sit K W σ H' s h' E :=
  ⟨z.rs.mono t, r, fun c fs d H2 h2 t2 => z.ox c fs d H2 h2 (t.trans t2)⟩
def OutV (K : PySem.W.Frag) (H : Hp) (Q : VK) (L : LK) : Prop := ∀ v H' x h', TLe K H H' → RH K H' h' → RV K H' x v → L x h' → Q v H'
def OutA (K : PySem.W.Frag) (H : Hp) (Q : List V → Hp → Prop) (L : List LV → LH → Prop) : Prop := ∀ v H' x h', TLe K H H' → RH K H' h' → RVs K H' x v → L x h' → Q v H'
def OutB {α : Type} (K : PySem.W.Frag) (H : Hp) (Q : α → Hp → Prop) (L : α → LH → Prop) : Prop := ∀ b H' h', TLe K H H' → RH K H' h' → L b h' → Q b H'
theorem OutV.step {K : PySem.W.Frag} {H H1 : Hp} {Q : VK} {L : LK} (o : OutV K H Q L) (t : TLe K H H1) : OutV K H1 Q L := fun v H' x h' t2 => o v H' x h' (t.trans t2)
theorem OutA.step {K : PySem.W.Frag} {H H1 : Hp} {Q : List V → Hp → Prop} {L : List LV → LH → Prop} (o : OutA K H Q L) (t : TLe K H H1) : OutA K H1 Q L := fun v H' x h' t2 => o v H' x h' (t.trans t2)
theorem OutB.step {α : Type} {K : PySem.W.Frag} {H H1 : Hp} {Q : α → Hp → Prop} {L : α → LH → Prop} (o : OutB K H Q L) (t : TLe K H H1) : OutB K H1 Q L := fun b H' h' t2 => o b H' h' (t.trans t2)
def upE (K : PySem.W.Frag) (W : WX) (l : LTE) : TE := fun σ H Q => ∃ s h E L, Sit K W σ H s h E ∧ l s h E L ∧ OutV K H Q L
def upT (K : PySem.W.Frag) (W : WX) (l : LTT) : TT := fun σ H Q => ∃ s h E L, Sit K W σ H s h E ∧ l s h E L ∧ OutB K H Q L
def upA (K : PySem.W.Frag) (W : WX) (l : LTA) : TA := fun σ H Q => ∃ s h E L, Sit K W σ H s h E ∧ l s h E L ∧ OutA K H Q L
def upO (K : PySem.W.Frag) (W : WX) (l : LTO) : TO := fun σ H Q => ∃ s h E L, Sit K W σ H s h E ∧ l s h E L ∧ OutB K H Q L
abbrev LE (X : Cx) (W : WX) (e : Expr) (l : LTE) : Prop := PE X e (upE X.K W l)
abbrev LT (X : Cx) (W : WX) (e : Expr) (l : LTT) : Prop := PT X e (upT X.K W l)
abbrev LWt (X : Cx) (W : WX) (e : Expr) (l : LTT) : Prop := PW X e (upT X.K W l)
abbrev LA (X : Cx) (W : WX) (e : List Expr) (l : LTA) : Prop := PA X e (upA X.K W l)
abbrev LO' (X : Cx) (W : WX) (e : Option Expr) (l : LTO) : Prop := PO X e (upO X.K W l)
section
variable {X : Cx} {e : Expr} {es : List Expr}
theorem peW {t t' : TE} (h : PE X e t) (i : ∀ σ H Q, t' σ H Q → t σ H Q) : PE X e t' := ⟨fun pins s σ H Q I q => h.run pins s σ H Q I (i _ _ _ q)⟩
theorem ptW {t t' : TT} (h : PT X e t) (i : ∀ σ H Q, t' σ H Q → t σ H Q) : PT X e t' := ⟨fun pins s σ H Q I q => h.run pins s σ H Q I (i _ _ _ q)⟩
theorem pwW {t t' : TT} (h : PW X e t) (i : ∀ σ H Q, t' σ H Q → t σ H Q) : PW X e t' := ⟨fun wh pins s σ H Q I q => h.run wh pins s σ H Q I (i _ _ _ q)⟩
theorem paW {t t' : TA} (h : PA X es t) (i : ∀ σ H Q, t' σ H Q → t σ H Q) : PA X es t' := ⟨fun pos pins s σ H Q I q => h.run pos pins s σ H Q I (i _ _ _ q)⟩
theorem psW {st : Stmt} {t t' : TS} (h : PS X st t) (i : ∀ D σ H, t' D σ H → t D σ H) : PS X st t' := ⟨fun pins s σ H D I q => h.run pins s σ H D I (i _ _ _ q)⟩
theorem pssW {st : List Stmt} {t t' : TS} (h : PSs X st t) (i : ∀ D σ H, t' D σ H → t D σ H) : PSs X st t' := ⟨fun pins s σ H D I q => h.run pins s σ H D I (i _ _ _ q)⟩
end

section
variable {X : Cx} {W : WX} {a b c e : Expr} {es : List Expr} {la lb lc le : LTE} {pos : Pos}
/-! ### names, constants -/
def lVar (i : Nat) : LTE := fun s h _ L => match s[i]? with
  | some (some v) => L v h
  | _ => False
def lC (v : LV) : LTE := fun _ h _ L => L v h
theorem le_var {i : Nat} {x : Str} {pos : Pos} (hN : X.N[i]? = some x) (hv : Vis X.env.scope x) (hd : (x == ("__debug__" : Str)) = false := by decide) (hcd : (x == ("__classdict__" : Str)) = false := by decide) : LE X W (.Name x pos) (lVar i) :=
  peW (pe_var hN hv hd hcd) fun σ H Q ⟨s, h, E, L, z, hl, o⟩ => by
    unfold lVar at hl
    split at hl
    · rename_i v q
      obtain ⟨w, h1, h2⟩ := z.rs.get q
      exact ⟨w, h1, o w H v h (.refl H) z.rh h2 hl⟩
    · exact hl.elim
theorem le_v (i : Nat) {x : Str} {pos : Pos} (hN : X.N[i]? = some x := by rfl) (hv : Vis X.env.scope x := by first | exact Or.inl rfl | exact Or.inr (Or.inl rfl) | exact Or.inr (Or.inr rfl)) (hd : (x == ("__debug__" : Str)) = false := by decide)
    (hcd : (x == ("__classdict__" : Str)) = false := by decide) : LE X W (.Name x pos) (lVar i) := le_var hN hv hd hcd
theorem le_cst {e : Expr} {v : V} {x : LV} (h : PE X e (tC v)) (r : ∀ H, RV X.K H x v) : LE X W e (lC x) := peW h fun σ H Q ⟨s, h, E, L, z, hl, o⟩ => o v H x h (.refl H) z.rh (r H) hl
theorem le_int {i j pos} : LE X W (.Constant (.int i) j pos) (lC (.int i)) := le_cst pe_int fun _ => .int i
theorem le_bl {i j pos} : LE X W (.Constant (.bool i) j pos) (lC (.bl i)) := le_cst pe_bl fun _ => .bl i
theorem le_non {j pos} : LE X W (.Constant .none j pos) (lC .non) := le_cst pe_non fun _ => .non
theorem le_str {i j pos} : LE X W (.Constant (.str i) j pos) (lC (.str i)) := le_cst pe_str fun _ => .str i
/-- an int, a text of the module; a class, a def -/
theorem le_gint {x : Str} {i : Int} {pos : Pos} (hm : ∃ t, X.mg x = some (.int i t)) (hg : Gl X x := by rfl) (hd : (x == ("__debug__" : Str)) = false := by decide) : LE X W (.Name x pos) (lC (.int i)) := by
  obtain ⟨t, hm⟩ := hm
  exact le_cst (pe_glob hg hm (v := .int i) ⟨t, rfl⟩ hd) fun _ => .int i
theorem le_gstr {x : Str} {i : Str} {pos : Pos} (hm : ∃ t, X.mg x = some (.str i t)) (hg : Gl X x := by rfl) (hd : (x == ("__debug__" : Str)) = false := by decide) : LE X W (.Name x pos) (lC (.str i)) := by
  obtain ⟨t, hm⟩ := hm
  exact le_cst (pe_glob hg hm (v := .str i) ⟨t, rfl⟩ hd) fun _ => .str i
theorem le_gref {x : Str} {a : Addr} {pos : Pos} (hm : X.mg x = some (.ref a)) (hg : Gl X x := by rfl) (hd : (x == ("__debug__" : Str)) = false := by decide) : LE X W (.Name x pos) (lC (.ref a)) := le_cst (pe_glob hg hm (v := .ref a) rfl hd) fun _ => .ref a
/-- a built-in class as a value -/
theorem le_bty {x : Str} {n : String} {pos : Pos} (hm : X.mg x = none) (hv : bootBuiltins x = some (.type n)) (hg : Gl X x := by rfl) (hn : x ≠ "__name__" := by decide) (hd : (x == ("__debug__" : Str)) = false := by decide) : LE X W (.Name x pos) (lC (.ty n)) :=
  le_cst (pe_bltn hg hm hv (v := .ty n) rfl hn hd) fun _ => .ty n

/-! ### operators -/
abbrev LR2 := LV → LV → LH → LK → Prop
def SR2 (K : PySem.W.Frag) (r : R2) (g : LR2) : Prop := ∀ (H : Hp) (h : LH) (x y : LV) (v u : V) (L : LK) (Q : VK), RH K H h → RV K H x v → RV K H y u → g x y h L → OutV K H Q L → r v u H Q
def lOp (g : LR2) (la lb : LTE) : LTE := fun s h E L => la s h E fun x h1 => lb s h1 E fun y h2 => g x y h2 L
theorem op_imp {r : R2} {g : LR2} (sr : SR2 X.K r g) : ∀ σ H Q, upE X.K W (lOp g la lb) σ H Q → tOp r (upE X.K W la) (upE X.K W lb) σ H Q := fun σ H Q ⟨s, h, E, L, z, hl, o⟩ =>
  ⟨s, h, E, _, z, hl, fun v H1 x h1 t1 r1 rx q1 => ⟨s, h1, E, _, z.step t1 r1, q1, fun u H2 y h2 t2 r2 ry q2 => sr H2 h2 x y v u L Q r2 (rx.mono t2) ry q2 (o.step (t1.trans t2))⟩⟩
theorem le_op {op : Operator} {r : R2} {g : LR2} (ho : OpR X (binaryOp op) r) (sr : SR2 X.K r g) (ha : LE X W a la) (hb : LE X W b lb) : LE X W (.BinOp a op b pos) (lOp g la lb) :=
  peW (pe_op ho ha hb) (op_imp sr)
theorem le_cmpR {op : CmpOp} {r : R2} {g : LR2} (ho : OpR X (compareOp op) r) (sr : SR2 X.K r g) (ha : LE X W a la) (hb : LE X W b lb) (hm : behindInMarks op b = false) : LE X W (.Compare a [op] [b] pos) (lOp g la lb) :=
  peW (pe_cmpR ho ha hb hm) (op_imp sr)
/-- a value that is a bool, as a test -/
def lTest (l : LTE) : LTT := fun s h E L => l s h E fun x h1 => match x with
  | .bl k => L k h1
  | _ => False
theorem test_imp : ∀ σ H (Q : Bool → Hp → Prop), upT X.K W (lTest la) σ H Q → tTest (upE X.K W la) σ H Q := fun σ H Q ⟨s, h, E, L, z, hl, o⟩ =>
  ⟨s, h, E, _, z, hl, fun v H1 x h1 t1 r1 rx q1 => by
    cases x with
    | bl k =>
      cases rx
      exact ⟨k, rfl, o k H1 h1 t1 r1 q1⟩
    | _ => exact q1.elim⟩
theorem tTest_mono {t t' : TE} (i : ∀ σ H Q, t' σ H Q → t σ H Q) : ∀ σ H Q, tTest t' σ H Q → tTest t σ H Q := fun σ H Q h => i _ _ _ h
theorem lt_cmpR {op : CmpOp} {r : R2} {g : LR2} (ho : OpR X (compareOp op) r) (sr : SR2 X.K r g) (ha : LE X W a la) (hb : LE X W b lb) (hm : behindInMarks op b = false) : LT X W (.Compare a [op] [b] pos) (lTest (lOp g la lb)) :=
  ptW (pt_cmpR ho ha hb hm) fun σ H Q h => tTest_mono (op_imp sr) σ H Q (test_imp σ H Q h)
def lChain (g g' : LR2) (la lb lc : LTE) : LTE := fun s h E L => la s h E fun x h1 => lb s h1 E fun y h2 => g x y h2 fun z h3 => match z with
  | .bl true => lc s h3 E fun w h4 => g' y w h4 L
  | .bl false => L (.bl false) h3
  | _ => False
theorem chain_imp {r r' : R2} {g g' : LR2} (sr : SR2 X.K r g) (sr' : SR2 X.K r' g') : ∀ σ H Q, upE X.K W (lChain g g' la lb lc) σ H Q → tChain r r' (upE X.K W la) (upE X.K W lb) (upE X.K W lc) σ H Q := fun σ H Q ⟨s, h, E, L, z, hl, o⟩ =>
  ⟨s, h, E, _, z, hl, fun v H1 x h1 t1 r1 rx q1 => ⟨s, h1, E, _, z.step t1 r1, q1, fun u H2 y h2 t2 r2 ry q2 =>
    sr H2 h2 x y v u _ _ r2 (rx.mono t2) ry q2 fun w H3 b h3 t3 r3 rb q3 => by
      cases b with
      | bl k =>
        cases rb
        cases k with
        | true => exact ⟨true, rfl, by
            rw [if_pos rfl]
            exact ⟨s, h3, E, _, z.step ((t1.trans t2).trans t3) r3, q3, fun w2 H4 y4 h4 t4 r4 ry4 q4 => sr' H4 h4 y y4 u w2 L Q r4 ((ry.mono t3).mono t4) ry4 q4 (o.step (((t1.trans t2).trans t3).trans t4))⟩⟩
        | false => exact ⟨false, rfl, by
            rw [if_neg Bool.false_ne_true]
            exact o (.bl false) H3 (.bl false) h3 ((t1.trans t2).trans t3) r3 (.bl false) q3⟩
      | _ => exact q3.elim⟩⟩
theorem le_chain {op op' : CmpOp} {r r' : R2} {g g' : LR2} (ho : OpR X (compareOp op) r) (ho' : OpR X (compareOp op') r') (sr : SR2 X.K r g) (sr' : SR2 X.K r' g') (ha : LE X W a la) (hb : LE X W b lb) (hc : LE X W c lc)
    (hm : lastMarks [op, op'] [b, c] = false := by with_unfolding_all rfl) : LE X W (.Compare a [op, op'] [b, c] pos) (lChain g g' la lb lc) := peW (pe_chain ho ho' ha hb hc hm) (chain_imp sr sr')
theorem lt_chain {op op' : CmpOp} {r r' : R2} {g g' : LR2} (ho : OpR X (compareOp op) r) (ho' : OpR X (compareOp op') r') (sr : SR2 X.K r g) (sr' : SR2 X.K r' g') (ha : LE X W a la) (hb : LE X W b lb) (hc : LE X W c lc)
    (hm : lastMarks [op, op'] [b, c] = false := by with_unfolding_all rfl) : LT X W (.Compare a [op, op'] [b, c] pos) (lTest (lChain g g' la lb lc)) := ptW (pt_chain ho ho' ha hb hc hm) fun σ H Q h => tTest_mono (chain_imp sr sr') σ H Q (test_imp σ H Q h)
def lUn (g : LV → LH → LK → Prop) (la : LTE) : LTE := fun s h E L => la s h E fun x h1 => g x h1 L
def gNeg : LV → LH → LK → Prop := fun x h L => match x with
  | .int i => L (.int (-i)) h
  | _ => False
theorem le_neg (ha : LE X W a la) : LE X W (.UnaryOp .USub a pos) (lUn gNeg la) := peW (pe_un un_neg ha) fun σ H Q ⟨s, h, E, L, z, hl, o⟩ =>
  ⟨s, h, E, _, z, hl, fun v H1 x h1 t1 r1 rx q1 => by
    cases x with
    | int i => cases rx; exact ⟨i, rfl, o _ H1 _ h1 t1 r1 (.int _) q1⟩
    | _ => exact q1.elim⟩

/-! ### and, or, not, if -/
def lAnd (t u : LTT) : LTT := fun s h E L => t s h E fun c h1 => if c = true then u s h1 E L else L false h1
def lOr (t u : LTT) : LTT := fun s h E L => t s h E fun c h1 => if c = true then L true h1 else u s h1 E L
def lNot (t : LTT) : LTT := fun s h E L => t s h E fun c h1 => L (!c) h1
variable {lt lu : LTT} {rest : List Expr}
theorem lw_and1 (ha : LT X W a lt) : LWt X W (.BoolOp .And [a] pos) lt := pw_and1 ha
theorem lw_or1 (ha : LT X W a lt) : LWt X W (.BoolOp .Or [a] pos) lt := pw_or1 ha
theorem lw_and (ha : LT X W a lt) (hb : LWt X W (.BoolOp .And (b :: rest) pos) lu) : LWt X W (.BoolOp .And (a :: b :: rest) pos) (lAnd lt lu) :=
  pwW (pw_and ha hb) fun σ H Q ⟨s, h, E, L, z, hl, o⟩ => ⟨s, h, E, _, z, hl, fun c H1 h1 t1 r1 q1 => by
    cases c with
    | true => exact ⟨s, h1, E, _, z.step t1 r1, q1, o.step t1⟩
    | false => exact o false H1 h1 t1 r1 q1⟩
theorem lw_or (ha : LT X W a lt) (hb : LWt X W (.BoolOp .Or (b :: rest) pos) lu) : LWt X W (.BoolOp .Or (a :: b :: rest) pos) (lOr lt lu) :=
  pwW (pw_or ha hb) fun σ H Q ⟨s, h, E, L, z, hl, o⟩ => ⟨s, h, E, _, z, hl, fun c H1 h1 t1 r1 q1 => by
    cases c with
    | false => exact ⟨s, h1, E, _, z.step t1 r1, q1, o.step t1⟩
    | true => exact o true H1 h1 t1 r1 q1⟩
theorem lw_t (h : LWt X W e lt) : LT X W e lt := h.pt
theorem lt_not (ha : LT X W a lt) : LT X W (.UnaryOp .Not a pos) (lNot lt) := ptW (pt_not ha) fun σ H Q ⟨s, h, E, L, z, hl, o⟩ => ⟨s, h, E, _, z, hl, fun c H1 h1 t1 r1 q1 => o (!c) H1 h1 t1 r1 q1⟩
/-- an expression that gives a bool, as a test -/
theorem lt_val (h : LE X W e le) (he : ∀ whole, isTrue e X.env whole = (do let v ← whole; standAt e.pos; holding [v] (truthy v)) := by intro _; rfl) : LT X W e (lTest le) :=
  ptW (pt_val h he) fun σ H Q q => test_imp σ H Q q
def lAndV (la lb : LTE) : LTE := fun s h E L => la s h E fun x h1 => match x with
  | .bl true => lb s h1 E L
  | .bl false => L (.bl false) h1
  | _ => False
def lOrV (la lb : LTE) : LTE := fun s h E L => la s h E fun x h1 => match x with
  | .bl false => lb s h1 E L
  | .bl true => L (.bl true) h1
  | _ => False
def lNotV (la : LTE) : LTE := fun s h E L => la s h E fun x h1 => match x with
  | .bl k => L (.bl (!k)) h1
  | _ => False
theorem le_one {op} (h : LE X W a la) : LE X W (.BoolOp op [a] pos) la := pe_one h
theorem le_and (ha : LE X W a la) (hb : LE X W (.BoolOp .And (b :: rest) pos) lb) : LE X W (.BoolOp .And (a :: b :: rest) pos) (lAndV la lb) :=
  peW (pe_and ha hb) fun σ H Q ⟨s, h, E, L, z, hl, o⟩ => ⟨s, h, E, _, z, hl, fun v H1 x h1 t1 r1 rx q1 => by
    cases x with
    | bl k =>
      cases rx
      refine ⟨k, rfl, ?_⟩
      cases k with
      | true => exact ⟨s, h1, E, _, z.step t1 r1, q1, o.step t1⟩
      | false => exact o _ H1 (.bl false) h1 t1 r1 (.bl _) q1
    | _ => exact q1.elim⟩
theorem le_or (ha : LE X W a la) (hb : LE X W (.BoolOp .Or (b :: rest) pos) lb) : LE X W (.BoolOp .Or (a :: b :: rest) pos) (lOrV la lb) :=
  peW (pe_or ha hb) fun σ H Q ⟨s, h, E, L, z, hl, o⟩ => ⟨s, h, E, _, z, hl, fun v H1 x h1 t1 r1 rx q1 => by
    cases x with
    | bl k =>
      cases rx
      refine ⟨k, rfl, ?_⟩
      cases k with
      | false => exact ⟨s, h1, E, _, z.step t1 r1, q1, o.step t1⟩
      | true => exact o _ H1 (.bl true) h1 t1 r1 (.bl _) q1
    | _ => exact q1.elim⟩
theorem le_not (ha : LE X W a la) : LE X W (.UnaryOp .Not a pos) (lNotV la) :=
  peW (pe_not ha) fun σ H Q ⟨s, h, E, L, z, hl, o⟩ => ⟨s, h, E, _, z, hl, fun v H1 x h1 t1 r1 rx q1 => by
    cases x with
    | bl k => cases rx; exact ⟨k, rfl, o _ H1 _ h1 t1 r1 (.bl _) q1⟩
    | _ => exact q1.elim⟩
def lIf (t : LTT) (la lb : LTE) : LTE := fun s h E L => t s h E fun c h1 => if c = true then la s h1 E L else lb s h1 E L
theorem le_if (hc : LT X W c lt) (ha : LE X W a la) (hb : LE X W b lb) : LE X W (.IfExp c a b pos) (lIf lt la lb) :=
  peW (pe_ifExp hc ha hb) fun σ H Q ⟨s, h, E, L, z, hl, o⟩ => ⟨s, h, E, _, z, hl, fun k H1 h1 t1 r1 q1 => by
    cases k with
    | true => exact ⟨s, h1, E, _, z.step t1 r1, q1, o.step t1⟩
    | false => exact ⟨s, h1, E, _, z.step t1 r1, q1, o.step t1⟩⟩
/-- if xs:, by truth -/
def gTru : LV → LH → (Bool → LH → Prop) → Prop := fun x h L => match x with
  | .non => L false h
  | .bl b => L b h
  | .int i => L (i != 0) h
  | .str y => y.length ≤ sizeLine ∧ L ((y.length : Int) != 0) h
  | .tup xs => L (!xs.isEmpty) h
  | .rl xs => L (!xs.isEmpty) h
  | .ref p => (match h p with
    | some (.lst xs) => L (!xs.isEmpty) h
    | some (.dic xs) => L (!xs.isEmpty) h
    | _ => False)
  | _ => False
def lTru (la : LTE) : LTT := fun s h E L => la s h E fun x h1 => gTru x h1 L
theorem RVs.isEmpty {K : PySem.W.Frag} {H : Hp} {xs : List LV} {vs : List V} (r : RVs K H xs vs) : xs.isEmpty = vs.isEmpty := by cases r <;> rfl
theorem RKs.isEmpty {K : PySem.W.Frag} {H : Hp} {α β : Type} {n : α → β} {xs : List (α × LV)} {vs : List (β × V)} (r : RKs K H n xs vs) : xs.isEmpty = vs.isEmpty := by cases r <;> rfl
theorem lt_truth (ha : LE X W a la) (he : ∀ whole, isTrue a X.env whole = (do let v ← whole; standAt a.pos; holding [v] (truthy v)) := by intro _; rfl) : LT X W a (lTru la) :=
  ptW (pt_truth ha he) fun σ H Q ⟨s, h, E, L, z, hl, o⟩ => ⟨s, h, E, _, z, hl, fun v H1 x h1 t1 r1 rx q1 => by
    cases x with
    | non => cases rx; exact ⟨false, rfl, o _ H1 h1 t1 r1 q1⟩
    | bl b => cases rx; exact ⟨b, rfl, o _ H1 h1 t1 r1 q1⟩
    | int i => cases rx; exact ⟨_, rfl, o _ H1 h1 t1 r1 q1⟩
    | str y => cases rx; exact ⟨_, ⟨q1.1, rfl⟩, o _ H1 h1 t1 r1 q1.2⟩
    | ty n => exact q1.elim
    | exc _ _ => exact q1.elim
    | cl _ => exact q1.elim
    | xt _ => exact q1.elim
    | tup xs =>
      cases rx with
      | tup ht hr => exact ⟨_, Or.inr (Or.inl ⟨_, ht, rfl⟩), o _ H1 h1 t1 r1 (by rw [← hr.isEmpty]; exact q1)⟩
    | rl xs =>
      cases rx with
      | rl ht hr => exact ⟨_, Or.inl ⟨_, ht.sq, rfl⟩, o _ H1 h1 t1 r1 (by rw [← hr.isEmpty]; exact q1)⟩
    | ref p =>
      cases rx
      have q2 : (match h1 p with
        | some (.lst xs) => L (!xs.isEmpty) h1
        | some (.dic xs) => L (!xs.isEmpty) h1
        | _ => False) := q1
      split at q2
      · rename_i xs e
        obtain ⟨vs, e2, rr⟩ := r1 p _ e
        exact ⟨_, Or.inl ⟨_, SqL.of e2, rfl⟩, o _ H1 h1 t1 r1 (by rw [← rr.isEmpty]; exact q2)⟩
      · rename_i xs e
        obtain ⟨vs, e2, rr⟩ := r1 p _ e
        exact ⟨_, Or.inr (Or.inr ⟨_, e2, rfl⟩), o _ H1 h1 t1 r1 (by rw [← rr.isEmpty]; exact q2)⟩
      · exact q2.elim⟩

/-! ### arguments, tuples, lists -/
def lNil : LTA := fun _ h _ L => L [] h
def lCons (la : LTE) (lr : LTA) : LTA := fun s h E L => la s h E fun x h1 => lr s h1 E fun xs h2 => L (x :: xs) h2
variable {lr : LTA}
theorem la_nil : LA X W [] lNil := paW pa_nil fun σ H Q ⟨s, h, E, L, z, hl, o⟩ => o [] H [] h (.refl H) z.rh .nil hl
theorem la_cons (ha : LE X W e le) (hr : LA X W es lr) (hs : starEach (e :: es) X.env = (false, eval e X.env) :: starEach es X.env := by rfl) : LA X W (e :: es) (lCons le lr) :=
  paW (pa_cons ha hr hs) fun σ H Q ⟨s, h, E, L, z, hl, o⟩ => ⟨s, h, E, _, z, hl, fun v H1 x h1 t1 r1 rx q1 => ⟨s, h1, E, _, z.step t1 r1, q1, fun vs H2 xs h2 t2 r2 rxs q2 => o _ H2 _ h2 (t1.trans t2) r2 (.cons (rx.mono t2) rxs) q2⟩⟩
def lTup (la : LTA) : LTE := fun s h E L => la s h E fun xs h1 => xs.length ≤ 100000 ∧ L (.tup xs) h1
def lLst (la : LTA) : LTE := fun s h E L => la s h E fun xs h1 => xs.length ≤ 100000 ∧ ∀ p, h1 p = none → L (.ref p) (up h1 p (.lst xs))
theorem szl {n : Nat} (h : n ≤ 100000) : n ≤ sizeLine := Nat.le_trans h (by decide)
theorem le_tup {x1} (ha : LA X W es lr) : LE X W (.Tuple es x1 pos) (lTup lr) := peW (pe_tup ha) fun σ H Q ⟨s, h, E, L, z, hl, o⟩ =>
  ⟨s, h, E, _, z, hl, fun vs H1 xs h1 t1 r1 rxs q1 => ⟨by rw [← rxs.length]; exact szl q1.1, fun p hp => o _ _ (.tup xs) h1 (t1.trans (.new hp)) (r1.new hp) (.tup (.of upd_same) (rxs.mono (.new hp))) q1.2⟩⟩
theorem le_lst (ha : LA X W es lr) : LE X W (.List es pos) (lLst lr) := peW (pe_lst ha) fun σ H Q ⟨s, h, E, L, z, hl, o⟩ =>
  ⟨s, h, E, _, z, hl, fun vs H1 xs h1 t1 r1 rxs q1 => ⟨by rw [← rxs.length]; exact szl q1.1, fun p hp => o _ _ (.ref p) _ (t1.trans (.new hp)) (r1.lay hp (.mkL upd_same (rxs.mono (.new hp)))) (.ref p) (q1.2 p (r1.fresh hp))⟩⟩
end
end VL

set_option Elab.async false
set_option linter.all false
set_option maxRecDepth 100000
set_option maxHeartbeats 2000000
namespace VL
open PySem PySem.Spec PyProof.Rows L2
theorem OpR.or {X : Cx} {f : Value → Value → Sem Value} {r r' : R2} (h : OpR X f r) (h' : OpR X f r') : OpR X f (fun x y H Q => r x y H Q ∨ r' x y H Q) := by
  intro pins s σ H x y v u Q I rx ry q
  rcases q with q | q
  · exact h pins s σ H x y v u Q I rx ry q
  · exact h' pins s σ H x y v u Q I rx ry q
theorem CallR.or {X : Cx} {f : Value} {r r' : List V → Hp → VK → Prop} (h : CallR X f r) (h' : CallR X f r') : CallR X f (fun x H Q => r x H Q ∨ r' x H Q) := by
  intro pins s σ H x v Q I rx q
  rcases q with q | q
  · exact h pins s σ H x v Q I rx q
  · exact h' pins s σ H x v Q I rx q
theorem OpR.nev {X : Cx} {f : Value → Value → Sem Value} : OpR X f (fun _ _ _ _ => False) := by
  intro pins s σ H x y v u Q I rx ry q
  exact q.elim
section
variable {K : PySem.W.Frag}
/-! ### arithmetic -/
def gInt (f : Int → Int → Int) : LR2 := fun x y h L => match x, y with
  | .int i, .int j => L (.int (f i j)) h
  | _, _ => False
def gIntC (C : Int → Int → Prop) (f : Int → Int → Int) : LR2 := fun x y h L => match x, y with
  | .int i, .int j => C i j ∧ L (.int (f i j)) h
  | _, _ => False
def gCmp (f : Int → Int → Bool) : LR2 := fun x y h L => match x, y with
  | .int i, .int j => L (.bl (f i j)) h
  | _, _ => False
theorem sr_int {f : Int → Int → Int} : SR2 K (rI0 fun i j => .int (f i j)) (gInt f) := fun H h x y v u L Q rh rx ry g o => by
  unfold gInt at g
  split at g
  · cases rx; cases ry
    exact ⟨_, _, rfl, rfl, o _ H _ h (.refl H) rh (.int _) g⟩
  · exact g.elim
theorem sr_intC {C : Int → Int → Prop} {f : Int → Int → Int} : SR2 K (rI C fun i j => .int (f i j)) (gIntC C f) := fun H h x y v u L Q rh rx ry g o => by
  unfold gIntC at g
  split at g
  · cases rx; cases ry
    exact ⟨_, _, rfl, rfl, g.1, o _ H _ h (.refl H) rh (.int _) g.2⟩
  · exact g.elim
theorem sr_cmp {f : Int → Int → Bool} : SR2 K (rI0 fun i j => .bl (f i j)) (gCmp f) := fun H h x y v u L Q rh rx ry g o => by
  unfold gCmp at g
  split at g
  · cases rx; cases ry
    exact ⟨_, _, rfl, rfl, o _ H _ h (.refl H) rh (.bl _) g⟩
  · exact g.elim
abbrev gSub : LR2 := gInt fun i j => i - j
abbrev gFdiv : LR2 := gIntC CDiv fun i j => i / j
abbrev gMod : LR2 := gIntC (fun _ j => 0 < j) fun i j => i % j
abbrev gPow : LR2 := gIntC CPow fun i j => i ^ j.toNat
/-- x + y -/
def gAdd : LR2 := fun x y h L => match x, y with
  | .int i, .int j => L (.int (i + j)) h
  | .str a, .str b => a.length + b.length ≤ sizeLine ∧ L (.str (a ++ b)) h
  | .tup a, .tup b => a.length + b.length ≤ 100000 ∧ L (.tup (a ++ b)) h
  | .ref a, .ref b => (match h a, h b with
    | some (.lst xs), some (.lst ys) => xs.length + ys.length ≤ 100000 ∧ ∀ p, h p = none → L (.ref p) (up h p (.lst (xs ++ ys)))
    | _, _ => False)
  | _, _ => False
def rAddStr : R2 := fun x y H Q => ∃ i j, x = .str i ∧ y = .str j ∧ i.length + j.length ≤ sizeLine ∧ Q (.str (i ++ j)) H
def rAdd4 (K : PySem.W.Frag) : R2 := fun x y H Q => (rI0 (fun i j => .int (i + j))) x y H Q ∨ (rAddStr x y H Q ∨ (rCatA K x y H Q ∨ rCat x y H Q))
theorem op_add4 {X : Cx} : OpR X (binaryOp .Add) (rAdd4 X.K) := (op_add).or ((show OpR X _ rAddStr from op_add_str).or ((op_catA).or op_cat))
theorem sr_add : SR2 K (rAdd4 K) gAdd := fun H h x y v u L Q rh rx ry g o => by
  unfold gAdd at g
  split at g
  · cases rx; cases ry
    exact .inl ⟨_, _, rfl, rfl, o _ H _ h (.refl H) rh (.int _) g⟩
  · cases rx; cases ry
    exact .inr (.inl ⟨_, _, rfl, rfl, g.1, o _ H _ h (.refl H) rh (.str _) g.2⟩)
  · rename_i a b
    cases rx with
    | tup ta ra =>
      cases ry with
      | tup tb rb =>
        refine .inr (.inr (.inl ⟨_, _, _, _, rfl, rfl, ta, tb, by rw [← ra.length, ← rb.length]; exact szl g.1, ?_, ?_, ?_⟩))
        · intro e
          subst e
          cases ra
          exact o _ H (.tup ([] ++ b)) h (.refl H) rh (.tup tb rb) g.2
        · intro _ e
          subst e
          cases rb
          refine o _ H (.tup (a ++ [])) h (.refl H) rh ?_ g.2
          rw [List.append_nil]
          exact .tup ta ra
        · intro _ _ p hp
          exact o _ _ (.tup (a ++ b)) h (.new hp) (rh.new hp) (.tup (.of upd_same) ((ra.append rb).mono (.new hp))) g.2
  · rename_i a b
    cases rx
    cases ry
    split at g
    · rename_i xs ys ea eb
      obtain ⟨vs, e1, q1⟩ := rh a _ ea
      obtain ⟨ws, e2, q2⟩ := rh b _ eb
      exact .inr (.inr (.inr ⟨a, b, vs, ws, rfl, rfl, e1, e2, by rw [← q1.length, ← q2.length]; exact szl g.1, fun p hp =>
        o _ _ (.ref p) _ (.new hp) (rh.lay hp (.mkL upd_same ((q1.append q2).mono (.new hp)))) (.ref p) (g.2 p (rh.fresh hp))⟩))
    · exact g.elim
  · exact g.elim
/-- x * y: ints (one within 2^64), a list or a tuple repeated -/
def gMul : LR2 := fun x y h L => match x, y with
  | .int i, .int j => ((-(2 ^ 64) < i ∧ i < 2 ^ 64) ∨ (-(2 ^ 64) < j ∧ j < 2 ^ 64)) ∧ L (.int (i * j)) h
  | .ref a, .int k => (match h a with
    | some (.lst xs) => -(2 ^ 62) ≤ k ∧ k < 2 ^ 62 ∧ xs.length * k.toNat ≤ 100000 ∧ ∀ p, h p = none → L (.ref p) (up h p (.lst (List.replicate k.toNat xs).flatten))
    | _ => False)
  | _, _ => False
theorem sr_mul : SR2 K (fun x y H Q => (rI CMul (fun i j => .int (i * j))) x y H Q ∨ rRep x y H Q) gMul := fun H h x y v u L Q rh rx ry g o => by
  unfold gMul at g
  split at g
  · cases rx; cases ry
    exact .inl ⟨_, _, rfl, rfl, g.1, o _ H _ h (.refl H) rh (.int _) g.2⟩
  · rename_i a k
    cases rx
    cases ry
    split at g
    · rename_i xs ea
      obtain ⟨vs, e1, q1⟩ := rh a _ ea
      obtain ⟨g1, g2, g3, g4⟩ := g
      exact .inr ⟨a, k, vs, rfl, rfl, e1, by omega, by omega, by rw [← q1.length]; exact szl g3, fun p hp =>
        o _ _ (.ref p) _ (.new hp) (rh.lay hp (.mkL upd_same ((q1.rep _).mono (.new hp)))) (.ref p) (g4 p (rh.fresh hp))⟩
    · exact g.elim
  · exact g.elim
theorem op_mul2 {X : Cx} : OpR X (binaryOp .Mult) (fun x y H Q => (rI CMul (fun i j => .int (i * j))) x y H Q ∨ rRep x y H Q) := op_mul.or op_rep

/-! ### == -/
def allD (f : LV → Option PyData) : List LV → Option (List PyData)
  | [] => some []
  | x :: xs => match f x, allD f xs with
    | some d, some ds => some (d :: ds)
    | _, _ => none
/-- a value as data; the lists as they are in h -/
def toD (h : LH) : Nat → LV → Option PyData
  | 0, _ => none
  | n + 1, x => match x with
    | .non => some .none
    | .bl b => some (.bool b)
    | .int i => some (.int i)
    | .str z => some (.str z)
    | .tup xs => (match allD (toD h n) xs with
      | some ds => some (.tuple ds)
      | none => none)
    | .rl xs => (match allD (toD h n) xs with
      | some ds => some (.list ds)
      | none => none)
    | .ref a => (match h a with
      | some (.lst xs) => (match allD (toD h n) xs with
        | some ds => some (.list ds)
        | none => none)
      | _ => none)
    | _ => none
theorem allD_ok {H : Hp} {f : LV → Option PyData} (hf : ∀ x v d, RV K H x v → f x = some d → Dp K H v d) : ∀ (xs : List LV) (vs : List V) (ds : List PyData), RVs K H xs vs → allD f xs = some ds → DpAll K H vs ds
  | [], _, _, .nil, e => by cases e; exact .nil
  | x :: xs, _, ds, .cons (v := v) (vs := vs) a b, e => by
    unfold allD at e
    split at e
    · rename_i d ds' e1 e2
      cases e
      exact .cons (hf _ _ _ a e1) (allD_ok hf xs vs ds' b e2)
    · cases e
theorem toD_ok {H : Hp} {h : LH} (rh : RH K H h) : ∀ (n : Nat) (x : LV) (v : V) (d : PyData), RV K H x v → toD h n x = some d → Dp K H v d
  | 0, _, _, _, _, e => by cases e
  | n + 1, x, v, d, r, e => by
    cases r with
    | non => cases e; exact .non
    | bl b => cases e; exact .bl b
    | int i => cases e; exact .int i
    | str z => cases e; exact .str z
    | ty t => cases e
    | exc _ => cases e
    | cl _ => cases e
    | xt _ _ => cases e
    | tup ht hr =>
      rename_i xs vs
      unfold toD at e
      simp only at e
      split at e
      · rename_i ds e1
        cases e
        exact .tup ht (allD_ok (toD_ok rh n) xs vs ds hr e1)
      · cases e
    | rl ht hr =>
      rename_i xs vs
      unfold toD at e
      simp only at e
      split at e
      · rename_i ds e1
        cases e
        exact .lst ht.sq (allD_ok (toD_ok rh n) xs vs ds hr e1)
      · cases e
    | ref a =>
      unfold toD at e
      simp only at e
      split at e
      · rename_i xs ea
        obtain ⟨vs, e2, hr⟩ := rh a _ ea
        split at e
        · rename_i ds e1
          cases e
          exact .lst (.of e2) (allD_ok (toD_ok rh n) xs vs ds hr e1)
        · cases e
      · cases e
def gEqW (f : Bool → Bool) : LR2 := fun x y h L => match x, y with
  | .int i, .int j => L (.bl (f (decide (i = j)))) h
  | .str i, .str j => L (.bl (f (decide (i = j)))) h
  | .bl i, .bl j => L (.bl (f (decide (i = j)))) h
  | .non, .non => L (.bl (f true)) h
  | x, y => (match toD h 8 x, toD h 8 y with
    | some d, some e => SeqAt.shaped d = true ∧ SeqAt.shaped e = true ∧ L (.bl (f (PyData.eqv d e))) h
    | _, _ => False)
abbrev gEq : LR2 := gEqW id
abbrev gNe : LR2 := gEqW (!·)
theorem decI {i j : Int} : decide (V.int i = V.int j) = decide (i = j) := by simp
theorem decS {i j : Str} : decide (V.str i = V.str j) = decide (i = j) := by simp
theorem decB {i j : Bool} : decide (V.bl i = V.bl j) = decide (i = j) := by simp
theorem sr_eqW {f : Bool → Bool} {r1 r2 : R2} (h1 : ∀ x y H Q, scal x y = true → Q (.bl (f (decide (x = y)))) H → r1 x y H Q)
    (h2 : ∀ x y H Q d e, Dp K H x d → Dp K H y e → SeqAt.shaped d = true → SeqAt.shaped e = true → Q (.bl (f (PyData.eqv d e))) H → r2 x y H Q) : SR2 K (fun x y H Q => r1 x y H Q ∨ r2 x y H Q) (gEqW f) := fun H h x y v u L Q rh rx ry g o => by
  unfold gEqW at g
  split at g
  · cases rx; cases ry
    exact .inl (h1 _ _ _ _ rfl (by rw [decI]; exact o _ H _ h (.refl H) rh (.bl _) g))
  · cases rx; cases ry
    exact .inl (h1 _ _ _ _ rfl (by rw [decS]; exact o _ H _ h (.refl H) rh (.bl _) g))
  · cases rx; cases ry
    exact .inl (h1 _ _ _ _ rfl (by rw [decB]; exact o _ H _ h (.refl H) rh (.bl _) g))
  · cases rx; cases ry
    exact .inl (h1 _ _ _ _ rfl (o _ H _ h (.refl H) rh (.bl _) g))
  · split at g
    · rename_i d e e1 e2
      exact .inr (h2 _ _ _ _ d e (toD_ok rh 8 _ _ _ rx e1) (toD_ok rh 8 _ _ _ ry e2) g.1 g.2.1 (o _ H _ h (.refl H) rh (.bl _) g.2.2))
    · exact g.elim
theorem sr_eq : SR2 K (fun x y H Q => rEq x y H Q ∨ rEqD K x y H Q) gEq := sr_eqW (fun x y H Q h q => ⟨h, q⟩) fun x y H Q d e a b c k q => ⟨d, e, a, b, c, k, q⟩
theorem sr_ne : SR2 K (fun x y H Q => rNe x y H Q ∨ rNeD K x y H Q) gNe := sr_eqW (fun x y H Q h q => ⟨h, q⟩) fun x y H Q d e a b c k q => ⟨d, e, a, b, c, k, q⟩
theorem op_eq2 {X : Cx} (hu : X.A.units + 64 < cLine) : OpR X (compareOp .Eq) (fun x y H Q => rEq x y H Q ∨ rEqD X.K x y H Q) := op_eq.or (op_eqD hu)
theorem op_ne2 {X : Cx} (hu : X.A.units + 64 < cLine) : OpR X (compareOp .NotEq) (fun x y H Q => rNe x y H Q ∨ rNeD X.K x y H Q) := op_ne.or (op_neD hu)

/-! ### is -/
def gIs (f : Bool → Bool) : LR2 := fun x y h L => match x, y with
  | .non, .non => L (.bl (f true)) h
  | _, .non => L (.bl (f false)) h
  | .bl a, .bl b => L (.bl (f (decide (a = b)))) h
  | _, _ => False
def rIsW (f : Bool → Bool) : R2 := fun x y H Q => (y = .non ∧ Q (.bl (f (decide (x = .non)))) H) ∨ ∃ a b, x = .bl a ∧ y = .bl b ∧ Q (.bl (f (decide (a = b)))) H
theorem op_is2 {X : Cx} : OpR X (compareOp .Is) (rIsW id) := op_isN.or op_is_bl
theorem op_isnot2 {X : Cx} : OpR X (compareOp .IsNot) (rIsW (!·)) := op_notN.or op_isnot_bl
theorem sr_is {f : Bool → Bool} : SR2 K (rIsW f) (gIs f) := fun H h x y v u L Q rh rx ry g o => by
  unfold gIs at g
  split at g
  · cases rx; cases ry
    exact .inl ⟨rfl, o _ H _ h (.refl H) rh (.bl _) g⟩
  · rename_i hx
    cases ry
    refine .inl ⟨rfl, ?_⟩
    have e : decide (v = V.non) = false := by
      cases rx <;> first | rfl | exact absurd rfl hx
    rw [e]
    exact o _ H _ h (.refl H) rh (.bl _) g
  · cases rx; cases ry
    exact .inr ⟨_, _, rfl, rfl, o _ H _ h (.refl H) rh (.bl _) g⟩
  · exact g.elim

/-! ### in -/
def lfl : LV → Option V
  | .non => some .non
  | .bl b => some (.bl b)
  | .int i => some (.int i)
  | .str z => some (.str z)
  | _ => none
def lfls : List LV → Option (List V)
  | [] => some []
  | x :: xs => match lfl x, lfls xs with
    | some d, some ds => some (d :: ds)
    | _, _ => none
theorem lfl_ok {H : Hp} {x : LV} {v w : V} (r : RV K H x v) (e : lfl x = some w) : v = w ∧ flatV v = true := by
  cases r <;> first | (cases e; exact ⟨rfl, rfl⟩) | cases e
theorem lfls_ok {H : Hp} : ∀ {xs : List LV} {vs ws : List V}, RVs K H xs vs → lfls xs = some ws → vs = ws ∧ vs.all flatV = true
  | [], _, _, .nil, e => by cases e; exact ⟨rfl, rfl⟩
  | x :: xs, _, ws, .cons a b, e => by
    unfold lfls at e
    split at e
    · rename_i d ds e1 e2
      cases e
      obtain ⟨rfl, h1⟩ := lfl_ok a e1
      obtain ⟨rfl, h2⟩ := lfls_ok b e2
      exact ⟨rfl, by rw [List.all_cons, h1, h2]; rfl⟩
    · cases e
/-- an int or a text as a key -/
def keyOf : LV → Option Key
  | .int i => some (.inl i)
  | .str z => some (.inr z)
  | _ => none
theorem keyOf_ok {H : Hp} {x : LV} {v : V} {k : Key} (r : RV K H x v) (e : keyOf x = some k) : v = kV k := by
  cases r <;> first | (cases e; rfl) | cases e
def gInL (f : Bool → Bool) (x : LV) (ys : List LV) (h : LH) (L : LK) : Prop := match lfl x, lfls ys with
  | some v, some ws => L (.bl (f (inV v ws))) h
  | _, _ => (match toD h 8 x, allD (toD h 7) ys with
    | some d, some ds => False
    | _, _ => False)
def gIn (f : Bool → Bool) : LR2 := fun x y h L => match y with
  | .tup ys => gInL f x ys h L
  | .rl ys => gInL f x ys h L
  | .str z => (match x with
    | .str c => (match c.cps.toList with
      | [k] => L (.bl (f (decide (k ∈ z.cps.toList)))) h
      | _ => False)
    | _ => False)
  | .ref a => (match h a with
    | some (.lst ys) => (match lfl x, lfls ys with
      | some v, some ws => L (.bl (f (inV v ws))) h
      | _, _ => (match toD h 8 x, toD h 8 (.ref a) with
        | some d, some (.list ds) => SeqAt.shaped d = true ∧ SeqAt.shaped (.list ds) = true ∧ L (.bl (f (ds.any fun z => PyData.eqv z d))) h
        | _, _ => False))
    | some (.dic kvs) => (match keyOf x with
      | some k => L (.bl (f (dget kvs k).isSome)) h
      | none => False)
    | some (.fdi _ kvs) => (match keyOf x with
      | some k => L (.bl (f (dget kvs k).isSome)) h
      | none => False)
    | _ => False)
  | _ => False
def rInW (K : PySem.W.Frag) (f : Bool → Bool) : R2 := fun x y H Q => (∃ p xs, y = .ref p ∧ (SqL K H p xs ∨ SqT K H p xs) ∧ flatV x = true ∧ xs.all flatV = true ∧ Q (.bl (f (inV x xs))) H) ∨
  (∃ (c : Nat) (z : Str), x = .str ⟨#[c]⟩ ∧ y = .str z ∧ Q (.bl (f (decide (c ∈ z.cps.toList)))) H) ∨
  (∃ d ds, Dp K H x d ∧ Dp K H y (.list ds) ∧ SeqAt.shaped d = true ∧ SeqAt.shaped (.list ds) = true ∧ Q (.bl (f (ds.any fun z => PyData.eqv z d))) H) ∨
  ∃ a o, y = .ref a ∧ DGet H a x o ∧ Q (.bl (f o.isSome)) H
theorem op_inW {X : Cx} (hu : X.A.units + 65 < cLine) : OpR X (compareOp .In) (rInW X.K id) := by
  intro pins s σ H x y v u Q I rx ry q
  rcases q with q | q | q | ⟨a, o, rfl, g, q⟩
  · exact op_in_seq pins s σ H x y v u Q I rx ry q
  · exact op_in_sign pins s σ H x y v u Q I rx ry q
  · exact op_inD hu pins s σ H x y v u Q I rx ry q
  · cases ry
    exact d_in (by omega) I g rx fun s' I' => ⟨.bl o.isSome, H, I', rfl, q⟩
theorem op_notInW {X : Cx} (hu : X.A.units + 65 < cLine) : OpR X (compareOp .NotIn) (rInW X.K (!·)) := by
  intro pins s σ H x y v u Q I rx ry q
  rcases q with q | q | q | ⟨a, o, rfl, g, q⟩
  · exact op_notIn_seq pins s σ H x y v u Q I rx ry q
  · exact op_notIn_sign pins s σ H x y v u Q I rx ry q
  · exact op_notInD hu pins s σ H x y v u Q I rx ry q
  · cases ry
    exact d_notIn (by omega) I g rx fun s' I' => ⟨.bl (!o.isSome), H, I', rfl, q⟩
theorem isSome_of {H : Hp} {kvs : List (Key × LV)} {ws : List (Key × V)} {k : Key} (r : RKs K H id kvs ws) : (dget kvs k).isSome = (valV ws k).isSome := by
  obtain ⟨h1, h2⟩ := r.dget (k := k)
  cases e : dget kvs k with
  | none => rw [h2 e]; rfl
  | some x =>
    obtain ⟨v, e1, _⟩ := h1 x e
    rw [e1]
    rfl
theorem sr_inL {f : Bool → Bool} {H : Hp} {h : LH} {x : LV} {ys : List LV} {v : V} {p : Addr} {vs : List V} {L : LK} {Q : VK} (rh : RH K H h) (rx : RV K H x v) (hs : SqL K H p vs ∨ SqT K H p vs) (rs : RVs K H ys vs) (g : gInL f x ys h L) (o : OutV K H Q L) : rInW K f v (.ref p) H Q := by
  unfold gInL at g
  split at g
  · rename_i w ws e1 e2
    obtain ⟨rfl, f1⟩ := lfl_ok rx e1
    obtain ⟨rfl, f2⟩ := lfls_ok rs e2
    exact .inl ⟨p, _, rfl, hs, f1, f2, o _ H _ h (.refl H) rh (.bl _) g⟩
  · split at g <;> exact g.elim
theorem sr_in {f : Bool → Bool} : SR2 K (rInW K f) (gIn f) := fun H h x y v u L Q rh rx ry g o => by
  unfold gIn at g
  split at g
  · cases ry with
    | tup ht hr => exact sr_inL rh rx (.inr ht) hr g o
  · cases ry with
    | rl ht hr => exact sr_inL rh rx (.inl ht.sq) hr g o
  · cases ry
    split at g
    · rename_i c
      cases rx
      split at g
      · rename_i k e
        refine .inr (.inl ⟨k, _, ?_, rfl, o _ H _ h (.refl H) rh (.bl _) g⟩)
        obtain ⟨⟨l⟩⟩ := c
        have e2 : l = [k] := e
        subst e2
        rfl
      · exact g.elim
    · exact g.elim
  · rename_i a
    cases ry
    split at g
    · rename_i ys ea
      obtain ⟨vs, e1, q1⟩ := rh a _ ea
      split at g
      · rename_i w ws e2 e3
        obtain ⟨rfl, f1⟩ := lfl_ok rx e2
        obtain ⟨rfl, f2⟩ := lfls_ok q1 e3
        exact .inl ⟨a, _, rfl, .inl (.of e1), f1, f2, o _ H _ h (.refl H) rh (.bl _) g⟩
      · split at g
        · rename_i d ds e2 e3
          exact .inr (.inr (.inl ⟨d, ds, toD_ok rh 8 _ _ _ rx e2, toD_ok rh 8 _ _ _ (.ref a) e3, g.1, g.2.1, o _ H _ h (.refl H) rh (.bl _) g.2.2⟩))
        · exact g.elim
    · rename_i kvs ea
      obtain ⟨ws, e1, q1⟩ := rh a _ ea
      split at g
      · rename_i k ek
        have e2 := keyOf_ok rx ek
        subst e2
        exact .inr (.inr (.inr ⟨a, _, rfl, .k e1, o _ H _ h (.refl H) rh (.bl _) (by rw [← isSome_of q1]; exact g)⟩))
      · exact g.elim
    · rename_i fz kvs ea
      obtain ⟨ob, ws⟩ := fz
      obtain ⟨e1, q1⟩ := rh a _ ea
      split at g
      · rename_i k ek
        have e2 := keyOf_ok rx ek
        subst e2
        exact .inr (.inr (.inr ⟨a, _, rfl, .inl ⟨ws, k, .inr ⟨ob, e1⟩, rfl, rfl⟩, o _ H _ h (.refl H) rh (.bl _) (by rw [← isSome_of q1]; exact g)⟩))
      · exact g.elim
    · exact g.elim
  · exact g.elim

/-! ### subscripts -/
theorem ixN_lt {n : Nat} {i : Int} {j : Nat} (h : ixN n i = some j) : j < n := by
  unfold ixN at h
  split at h
  · split at h
    · cases h; omega
    · cases h
  · split at h
    · cases h; omega
    · cases h
theorem atI_of {H : Hp} {xs : List LV} {vs : List V} {i : Int} {x : LV} (r : RVs K H xs vs) (e : atI xs i = some x) : ∃ v, atI vs i = some v ∧ RV K H x v := by
  unfold atI at e ⊢
  rw [← r.length]
  cases q : ixN xs.length i with
  | none => rw [q] at e; cases e
  | some j =>
    rw [q] at e
    exact r.get e
def gIx : LR2 := fun x y h L => match x with
  | .tup xs => (match y with
    | .int i => (match atI xs i with
      | some v => L v h
      | none => False)
    | _ => False)
  | .rl xs => (match y with
    | .int i => (match atI xs i with
      | some v => L v h
      | none => False)
    | _ => False)
  | .str z => (match y with
    | .int i => (match atI z.cps.toList i with
      | some c => z.length ≤ sizeLine ∧ L (.str ⟨#[c]⟩) h
      | none => False)
    | _ => False)
  | .ref a => (match h a with
    | some (.lst xs) => (match y with
      | .int i => (match atI xs i with
        | some v => L v h
        | none => False)
      | _ => False)
    | some (.dic kvs) => (match keyOf y with
      | some k => (match dget kvs k with
        | some v => L v h
        | none => False)
      | none => False)
    | some (.fdi _ kvs) => (match keyOf y with
      | some k => (match dget kvs k with
        | some v => L v h
        | none => False)
      | none => False)
    | _ => False)
  | _ => False
def rIxD : R2 := fun x y H Q => ∃ a v, x = .ref a ∧ DGet H a y (some v) ∧ Q v H
theorem ix_dic {X : Cx} (hu : X.A.units + 1 < cLine) : IxR X rIxD := by
  intro value slice pins s σ H x y v u Q I rx ry h hs
  obtain ⟨a, w, rfl, g, q⟩ := h
  cases rx
  exact tail_any (dict_typeIs I g) PySem.F.slot_dict_getitem.lookup (d_getItem hu I g ry fun w' s' I' r' => ⟨w, H, I', r', q⟩) hs
theorem ix_all {X : Cx} (hu : X.A.units + 1 < cLine) : IxR X (fun x y H Q => rIx X.K x y H Q ∨ rIxD x y H Q) := ix_seq.or (ix_dic hu)
theorem sr_ix : SR2 K (fun x y H Q => rIx K x y H Q ∨ rIxD x y H Q) gIx := fun H h x y v u L Q rh rx ry g o => by
  unfold gIx at g
  split at g
  · cases rx with
    | tup ht hr =>
      split at g
      · cases ry
        split at g
        · rename_i w e
          obtain ⟨w', e1, r1⟩ := atI_of hr e
          exact .inl (.inr (.inl ⟨_, _, _, w', rfl, rfl, ht, e1, o _ H _ h (.refl H) rh r1 g⟩))
        · exact g.elim
      · exact g.elim
  · cases rx with
    | rl ht hr =>
      split at g
      · cases ry
        split at g
        · rename_i w e
          obtain ⟨w', e1, r1⟩ := atI_of hr e
          exact .inl (.inl ⟨_, _, _, w', rfl, rfl, ht.sq, e1, o _ H _ h (.refl H) rh r1 g⟩)
        · exact g.elim
      · exact g.elim
  · cases rx
    split at g
    · cases ry
      split at g
      · rename_i c e
        exact .inl (.inr (.inr ⟨_, _, c, rfl, rfl, g.1, e, o _ H _ h (.refl H) rh (.str _) g.2⟩))
      · exact g.elim
    · exact g.elim
  · rename_i a
    cases rx
    split at g
    · rename_i xs ea
      obtain ⟨vs, e1, q1⟩ := rh a _ ea
      split at g
      · cases ry
        split at g
        · rename_i w e
          obtain ⟨w', e2, r1⟩ := atI_of q1 e
          exact .inl (.inl ⟨_, _, _, w', rfl, rfl, .of e1, e2, o _ H _ h (.refl H) rh r1 g⟩)
        · exact g.elim
      · exact g.elim
    · rename_i kvs ea
      obtain ⟨ws, e1, q1⟩ := rh a _ ea
      split at g
      · rename_i k ek
        have e2 := keyOf_ok ry ek
        subst e2
        split at g
        · rename_i w e
          obtain ⟨w', e3, r1⟩ := (q1.dget (k := k)).1 w e
          exact .inr ⟨a, w', rfl, by rw [← e3]; exact .k e1, o _ H _ h (.refl H) rh r1 g⟩
        · exact g.elim
      · exact g.elim
    · rename_i fz kvs ea
      obtain ⟨ob, ws⟩ := fz
      obtain ⟨e1, q1⟩ := rh a _ ea
      split at g
      · rename_i k ek
        have e2 := keyOf_ok ry ek
        subst e2
        split at g
        · rename_i w e
          obtain ⟨w', e3, r1⟩ := (q1.dget (k := k)).1 w e
          exact .inr ⟨a, w', rfl, .inl ⟨ws, k, .inr ⟨ob, e1⟩, rfl, e3.symm⟩, o _ H _ h (.refl H) rh r1 g⟩
        · exact g.elim
      · exact g.elim
    · exact g.elim
  · exact g.elim
end
section
variable {X : Cx} {W : WX} {a b e : Expr} {la lb le : LTE} {pos p2 : Pos} {ll lh : LTO}
theorem le_ix (hu : X.A.units + 1 < cLine) (ha : LE X W a la) (hb : LE X W b lb) (hs : PlainIx b := by intro _ _; rfl) : LE X W (.Subscript a b pos) (lOp gIx la lb) := peW (pe_ix (ix_all hu) ha hb hs) (op_imp sr_ix)
theorem le_add (ha : LE X W a la) (hb : LE X W b lb) : LE X W (.BinOp a .Add b pos) (lOp gAdd la lb) := le_op op_add4 sr_add ha hb
theorem le_sub (ha : LE X W a la) (hb : LE X W b lb) : LE X W (.BinOp a .Sub b pos) (lOp gSub la lb) := le_op op_sub sr_int ha hb
theorem le_mul (ha : LE X W a la) (hb : LE X W b lb) : LE X W (.BinOp a .Mult b pos) (lOp gMul la lb) := le_op op_mul2 sr_mul ha hb
theorem le_fdiv (ha : LE X W a la) (hb : LE X W b lb) : LE X W (.BinOp a .FloorDiv b pos) (lOp gFdiv la lb) := le_op op_fdiv sr_intC ha hb
theorem le_mod (ha : LE X W a la) (hb : LE X W b lb) : LE X W (.BinOp a .Mod b pos) (lOp gMod la lb) := le_op op_mod sr_intC ha hb
theorem le_pow (ha : LE X W a la) (hb : LE X W b lb) : LE X W (.BinOp a .Pow b pos) (lOp gPow la lb) := le_op op_pow sr_intC ha hb
abbrev gLt : LR2 := gCmp fun i j => decide (i < j)
abbrev gLe : LR2 := gCmp fun i j => decide (i ≤ j)
abbrev gGt : LR2 := gCmp fun i j => decide (j < i)
abbrev gGe : LR2 := gCmp fun i j => decide (j ≤ i)
theorem lt_eq (hu : X.A.units + 64 < cLine) (ha : LE X W a la) (hb : LE X W b lb) : LT X W (.Compare a [.Eq] [b] pos) (lTest (lOp gEq la lb)) := lt_cmpR (op_eq2 hu) sr_eq ha hb (nomark _)
theorem lt_ne (hu : X.A.units + 64 < cLine) (ha : LE X W a la) (hb : LE X W b lb) : LT X W (.Compare a [.NotEq] [b] pos) (lTest (lOp gNe la lb)) := lt_cmpR (op_ne2 hu) sr_ne ha hb (nomark _)
theorem lt_lt (ha : LE X W a la) (hb : LE X W b lb) : LT X W (.Compare a [.Lt] [b] pos) (lTest (lOp gLt la lb)) := lt_cmpR op_lt sr_cmp ha hb (nomark _)
theorem lt_le (ha : LE X W a la) (hb : LE X W b lb) : LT X W (.Compare a [.LtE] [b] pos) (lTest (lOp gLe la lb)) := lt_cmpR op_le sr_cmp ha hb (nomark _)
theorem lt_gt (ha : LE X W a la) (hb : LE X W b lb) : LT X W (.Compare a [.Gt] [b] pos) (lTest (lOp gGt la lb)) := lt_cmpR op_gt sr_cmp ha hb (nomark _)
theorem lt_ge (ha : LE X W a la) (hb : LE X W b lb) : LT X W (.Compare a [.GtE] [b] pos) (lTest (lOp gGe la lb)) := lt_cmpR op_ge sr_cmp ha hb (nomark _)
theorem le_eq (hu : X.A.units + 64 < cLine) (ha : LE X W a la) (hb : LE X W b lb) : LE X W (.Compare a [.Eq] [b] pos) (lOp gEq la lb) := le_cmpR (op_eq2 hu) sr_eq ha hb (nomark _)
theorem le_ne (hu : X.A.units + 64 < cLine) (ha : LE X W a la) (hb : LE X W b lb) : LE X W (.Compare a [.NotEq] [b] pos) (lOp gNe la lb) := le_cmpR (op_ne2 hu) sr_ne ha hb (nomark _)
theorem le_lt (ha : LE X W a la) (hb : LE X W b lb) : LE X W (.Compare a [.Lt] [b] pos) (lOp gLt la lb) := le_cmpR op_lt sr_cmp ha hb (nomark _)
theorem le_le (ha : LE X W a la) (hb : LE X W b lb) : LE X W (.Compare a [.LtE] [b] pos) (lOp gLe la lb) := le_cmpR op_le sr_cmp ha hb (nomark _)
theorem le_gt (ha : LE X W a la) (hb : LE X W b lb) : LE X W (.Compare a [.Gt] [b] pos) (lOp gGt la lb) := le_cmpR op_gt sr_cmp ha hb (nomark _)
theorem le_ge (ha : LE X W a la) (hb : LE X W b lb) : LE X W (.Compare a [.GtE] [b] pos) (lOp gGe la lb) := le_cmpR op_ge sr_cmp ha hb (nomark _)
theorem le_is (ha : LE X W a la) (hb : LE X W b lb) : LE X W (.Compare a [.Is] [b] pos) (lOp (gIs id) la lb) := le_cmpR op_is2 sr_is ha hb (nomark _)
theorem le_isnot (ha : LE X W a la) (hb : LE X W b lb) : LE X W (.Compare a [.IsNot] [b] pos) (lOp (gIs (!·)) la lb) := le_cmpR op_isnot2 sr_is ha hb (nomark _)
theorem lt_is (ha : LE X W a la) (hb : LE X W b lb) : LT X W (.Compare a [.Is] [b] pos) (lTest (lOp (gIs id) la lb)) := lt_cmpR op_is2 sr_is ha hb (nomark _)
theorem lt_isnot (ha : LE X W a la) (hb : LE X W b lb) : LT X W (.Compare a [.IsNot] [b] pos) (lTest (lOp (gIs (!·)) la lb)) := lt_cmpR op_isnot2 sr_is ha hb (nomark _)
theorem le_in (hu : X.A.units + 65 < cLine) (ha : LE X W a la) (hb : LE X W b lb) (hm : behindInMarks .In b = false := by with_unfolding_all rfl) : LE X W (.Compare a [.In] [b] pos) (lOp (gIn id) la lb) := le_cmpR (op_inW hu) sr_in ha hb hm
theorem le_notIn (hu : X.A.units + 65 < cLine) (ha : LE X W a la) (hb : LE X W b lb) (hm : behindInMarks .NotIn b = false := by with_unfolding_all rfl) : LE X W (.Compare a [.NotIn] [b] pos) (lOp (gIn (!·)) la lb) := le_cmpR (op_notInW hu) sr_in ha hb hm
theorem lt_in (hu : X.A.units + 65 < cLine) (ha : LE X W a la) (hb : LE X W b lb) (hm : behindInMarks .In b = false := by with_unfolding_all rfl) : LT X W (.Compare a [.In] [b] pos) (lTest (lOp (gIn id) la lb)) := lt_cmpR (op_inW hu) sr_in ha hb hm
theorem lt_notIn (hu : X.A.units + 65 < cLine) (ha : LE X W a la) (hb : LE X W b lb) (hm : behindInMarks .NotIn b = false := by with_unfolding_all rfl) : LT X W (.Compare a [.NotIn] [b] pos) (lTest (lOp (gIn (!·)) la lb)) := lt_cmpR (op_notInW hu) sr_in ha hb hm
/-! ### slices -/
def cutL (xs : List LV) (lo hi : Option Int) : List LV := (xs.drop (HT.sIx xs.length 0 lo)).take (HT.sIx xs.length xs.length hi - HT.sIx xs.length 0 lo)
theorem cut_ok {K : PySem.W.Frag} {H : Hp} {xs : List LV} {vs : List V} (r : RVs K H xs vs) (lo hi : Option Int) : RVs K H (cutL xs lo hi) (cutV vs lo hi) := by
  unfold cutL cutV
  rw [r.length]
  exact (r.drop _).take _
def gSl : LV → Option Int → Option Int → LH → LK → Prop := fun x lo hi h L => match x with
  | .tup xs => L (.tup (cutL xs lo hi)) h
  | .rl xs => ∀ p, h p = none → L (.ref p) (up h p (.lst (cutL xs lo hi)))
  | .str z => z.length ≤ sizeLine ∧ L (.str (cutS z lo hi)) h
  | .ref a => (match h a with
    | some (.lst xs) => ∀ p, h p = none → L (.ref p) (up h p (.lst (cutL xs lo hi)))
    | _ => False)
  | _ => False
theorem SlR.or {r r' : V → Option Int → Option Int → Hp → VK → Prop} (h : SlR X r) (h' : SlR X r') : SlR X (fun x lo hi H Q => r x lo hi H Q ∨ r' x lo hi H Q) := by
  intro pins s σ H x v vl vu lo hi sl Q I rx hs pl pu q
  rcases q with q | q
  · exact h pins s σ H x v vl vu lo hi sl Q I rx hs pl pu q
  · exact h' pins s σ H x v vl vu lo hi sl Q I rx hs pl pu q
def rSl3 (K : PySem.W.Frag) : V → Option Int → Option Int → Hp → VK → Prop := fun x lo hi H Q => rSlL K x lo hi H Q ∨ (rSlA K x lo hi H Q ∨ rSlS x lo hi H Q)
theorem sl_3 : SlR X (rSl3 X.K) := SlR.or sl_list (SlR.or sl_tupA sl_str)
theorem cut_whole {vs : List V} {lo hi : Option Int} (h : HT.sIx vs.length 0 lo = 0 ∧ HT.sIx vs.length vs.length hi = vs.length) : cutV vs lo hi = vs := by
  unfold cutV
  rw [h.1, h.2]
  simp
def lSl (l : LTE) (ll lh : LTO) : LTE := fun s h E L => l s h E fun x h1 => ll s h1 E fun lo h2 => lh s h2 E fun hi h3 => gSl x lo hi h3 L
def lNoP : LTO := fun _ h _ L => L none h
def lPart (l : LTE) : LTO := fun s h E L => l s h E fun x h1 => match x with
  | .int i => L (some i) h1
  | _ => False
theorem lo_none : LO' X W none lNoP := ⟨fun pins s σ H Q I ⟨s', h, E, L, z, hl, o⟩ => po_none.run pins s σ H Q I (o _ H h (.refl H) z.rh hl)⟩
theorem lo_some (h : LE X W e le) : LO' X W (some e) (lPart le) := ⟨fun pins s σ H Q I ⟨s', h', E, L, z, hl, o⟩ => (po_some h).run pins s σ H Q I ⟨s', h', E, _, z, hl, fun v H1 x h1 t1 r1 rx q1 => by
  cases x with
  | int i => cases rx; exact ⟨i, rfl, o _ H1 h1 t1 r1 q1⟩
  | _ => exact q1.elim⟩⟩
theorem le_slice {lo hi : Option Expr} (ha : LE X W e le) (hl : LO' X W lo ll) (hh : LO' X W hi lh) : LE X W (.Subscript e (.Slice lo hi none p2) pos) (lSl le ll lh) :=
  peW (pe_slice sl_3 ha hl hh) fun σ H Q ⟨s, h, E, L, z, hl, o⟩ => ⟨s, h, E, _, z, hl, fun v H1 x h1 t1 r1 rx q1 => ⟨s, h1, E, _, z.step t1 r1, q1, fun lo' H2 h2 t2 r2 q2 => ⟨s, h2, E, _, z.step (t1.trans t2) r2, q2, fun hi' H3 h3 t3 r3 q3 => by
    have o3 := o.step ((t1.trans t2).trans t3)
    have rx3 := (rx.mono t2).mono t3
    unfold gSl at q3
    split at q3
    · cases rx3 with
      | tup ht hr =>
        refine .inr (.inl ⟨_, _, rfl, ht, fun w => ?_, fun w p hp => ?_⟩)
        · refine o3 _ H3 _ h3 (.refl H3) r3 ?_ q3
          have c := cut_ok hr lo' hi'
          rw [cut_whole w] at c
          exact .tup ht c
        · exact o3 _ _ _ h3 (.new hp) (r3.new hp) (.tup (.of upd_same) ((cut_ok hr lo' hi').mono (.new hp))) q3
    · cases rx3 with
      | rl ht hr => exact .inl ⟨_, _, rfl, ht.sq, fun p hp => o3 _ _ (.ref p) _ (.new hp) (r3.lay hp (.mkL upd_same ((cut_ok hr lo' hi').mono (.new hp)))) (.ref p) (q3 p (r3.fresh hp))⟩
    · cases rx3
      exact .inr (.inr ⟨_, rfl, q3.1, o3 _ H3 _ h3 (.refl H3) r3 (.str _) q3.2⟩)
    · rename_i a
      cases rx3
      split at q3
      · rename_i xs ea
        obtain ⟨vs, e1, hr⟩ := r3 a _ ea
        exact .inl ⟨_, _, rfl, .of e1, fun p hp => o3 _ _ (.ref p) _ (.new hp) (r3.lay hp (.mkL upd_same ((cut_ok hr lo' hi').mono (.new hp)))) (.ref p) (q3 p (r3.fresh hp))⟩
      · exact q3.elim
    · exact q3.elim⟩⟩⟩
end
end VL

set_option Elab.async false
set_option linter.all false
set_option maxRecDepth 100000
set_option maxHeartbeats 2000000
namespace VL
open PySem PySem.Spec PyProof.Rows L2
/-! ### built-ins by values -/
abbrev LCR := List LV → LH → LK → Prop
def SRC (K : PySem.W.Frag) (r : List V → Hp → VK → Prop) (g : LCR) : Prop := ∀ (H : Hp) (h : LH) (xs : List LV) (vs : List V) (L : LK) (Q : VK), RH K H h → RVs K H xs vs → g xs h L → OutV K H Q L → r vs H Q
def lCB (g : LCR) (la : LTA) : LTE := fun s h E L => la s h E fun xs h1 => g xs h1 L
section
variable {X : Cx} {W : WX} {a b e : Expr} {es : List Expr} {la lb le : LTE} {lr : LTA} {pos p p2 : Pos} {x : Str} {id T : String} {r : List V → Hp → VK → Prop} {g : LCR}
theorem cb_imp (sr : SRC X.K r g) : ∀ σ H Q, upE X.K W (lCB g lr) σ H Q → tCB r (upA X.K W lr) σ H Q := fun σ H Q ⟨s, h, E, L, z, hl, o⟩ =>
  ⟨s, h, E, _, z, hl, fun vs H1 xs h1 t1 r1 rx q1 => sr H1 h1 xs vs L Q r1 rx q1 (o.step t1)⟩
theorem le_callB (hc : CallR X (.builtin id) r) (sr : SRC X.K r g) (hv : bootBuiltins x = some (.builtin id)) (hm : X.mg x = none) (ha : LA X W (e :: es) lr) (hg : Gl X x := by rfl) (hn : x ≠ "__name__" := by decide) (hdb : (x == ("__debug__" : Str)) = false := by decide)
    (he : starEach (e :: es) X.env = (false, eval e X.env) :: starEach es X.env := by rfl) (hpl : (backTo pos (starEach es X.env)).any (·.1) = false := by rfl) : LE X W (.Call (.Name x p) (e :: es) [] pos) (lCB g lr) :=
  peW (pe_callB hc hg hm hv ha hn hdb he hpl) (cb_imp sr)
theorem le_callT (hc : CallR X (.type T) r) (sr : SRC X.K r g) (hv : bootBuiltins x = some (.type T)) (hm : X.mg x = none) (ha : LA X W (e :: es) lr) (hg : Gl X x := by rfl) (hn : x ≠ "__name__" := by decide) (hdb : (x == ("__debug__" : Str)) = false := by decide)
    (he : starEach (e :: es) X.env = (false, eval e X.env) :: starEach es X.env := by rfl) (hpl : (backTo pos (starEach es X.env)).any (·.1) = false := by rfl) : LE X W (.Call (.Name x p) (e :: es) [] pos) (lCB g lr) :=
  peW (pe_callTy hc hg hm hv ha hn hdb he hpl) (cb_imp sr)
end
section
variable {K : PySem.W.Frag}
/-- len -/
def gLen : LCR := fun xs h L => match xs with
  | [.tup ys] => L (.int ys.length) h
  | [.rl ys] => L (.int ys.length) h
  | [.str z] => z.length ≤ sizeLine ∧ L (.int z.length) h
  | [.ref a] => (match h a with
    | some (.lst ys) => L (.int ys.length) h
    | some (.dic ys) => L (.int ys.length) h
    | _ => False)
  | _ => False
def rLen4 (K : PySem.W.Frag) : List V → Hp → VK → Prop := fun xs H Q => (∃ p ys, xs = [.ref p] ∧ (SqL K H p ys ∨ SqT K H p ys) ∧ Q (.int ys.length) H) ∨ (∃ z, xs = [.str z] ∧ z.length ≤ sizeLine ∧ Q (.int z.length) H) ∨ ∃ a kvs, xs = [V.ref a] ∧ H a = some (.dK kvs) ∧ Q (.int kvs.length) H
theorem call_len4 {X : Cx} : CallR X (.builtin "len") (rLen4 X.K) := CallR.or call_len_seq (CallR.or call_len_str call_lenD)
theorem src_len : SRC K (rLen4 K) gLen := fun H h xs vs L Q rh rx g o => by
  unfold gLen at g
  split at g
  · cases rx with
    | cons r t =>
      cases t
      cases r with
      | tup ht hr => exact .inl ⟨_, _, rfl, .inr ht, o _ H _ h (.refl H) rh (by rw [← hr.length]; exact .int _) g⟩
  · cases rx with
    | cons r t =>
      cases t
      cases r with
      | rl ht hr => exact .inl ⟨_, _, rfl, .inl ht.sq, o _ H _ h (.refl H) rh (by rw [← hr.length]; exact .int _) g⟩
  · cases rx with
    | cons r t =>
      cases t
      cases r
      exact .inr (.inl ⟨_, rfl, g.1, o _ H _ h (.refl H) rh (.int _) g.2⟩)
  · rename_i a
    cases rx with
    | cons r t =>
      cases t
      cases r
      split at g
      · rename_i ys ea
        obtain ⟨vs, e1, q1⟩ := rh a _ ea
        exact .inl ⟨_, _, rfl, .inl (.of e1), o _ H _ h (.refl H) rh (by rw [← q1.length]; exact .int _) g⟩
      · rename_i ys ea
        obtain ⟨vs, e1, q1⟩ := rh a _ ea
        refine .inr (.inr ?_)
        have q := o (.int (vs.length : Nat)) H _ h (.refl H) rh (by rw [← q1.length]; exact .int _) g
        exact ⟨a, vs, rfl, e1, q⟩
      · exact g.elim
  · exact g.elim
def gAbs : LCR := fun xs h L => match xs with
  | [.int i] => L (.int (if i < 0 then -i else i)) h
  | _ => False
theorem src_abs : SRC K (fun xs H Q => ∃ i, xs = [.int i] ∧ Q (.int (if i < 0 then -i else i)) H) gAbs := fun H h xs vs L Q rh rx g o => by
  unfold gAbs at g
  split at g
  · cases rx with
    | cons r t => cases t; cases r; exact ⟨_, rfl, o _ H _ h (.refl H) rh (.int _) g⟩
  · exact g.elim
def gII (f : Int → Int → Int) : LCR := fun xs h L => match xs with
  | [.int i, .int j] => L (.int (f i j)) h
  | _ => False
theorem src_II {f : Int → Int → Int} : SRC K (fun xs H Q => ∃ i j, xs = [.int i, .int j] ∧ Q (.int (f i j)) H) (gII f) := fun H h xs vs L Q rh rx g o => by
  unfold gII at g
  split at g
  · cases rx with
    | cons r t =>
      cases t with
      | cons r2 t => cases t; cases r; cases r2; exact ⟨_, _, rfl, o _ H _ h (.refl H) rh (.int _) g⟩
  · exact g.elim
abbrev gMax2 : LCR := gII fun i j => if j > i then j else i
abbrev gMin2 : LCR := gII fun i j => if j < i then j else i
def gInt1 : LCR := fun xs h L => match xs with
  | [.int i] => L (.int i) h
  | [.bl k] => L (.int (if k then 1 else 0)) h
  | _ => False
theorem src_int1 : SRC K (fun xs H Q => (∃ i, xs = [.int i] ∧ Q (.int i) H) ∨ ∃ k, xs = [.bl k] ∧ Q (.int (if k then 1 else 0)) H) gInt1 := fun H h xs vs L Q rh rx g o => by
  unfold gInt1 at g
  split at g
  · cases rx with
    | cons r t => cases t; cases r; exact .inl ⟨_, rfl, o _ H _ h (.refl H) rh (.int _) g⟩
  · cases rx with
    | cons r t => cases t; cases r; exact .inr ⟨_, rfl, o _ H _ h (.refl H) rh (.int _) g⟩
  · exact g.elim
/-- list(x) -/
def gList : LCR := fun xs h L => match xs with
  | [.tup ys] => ∀ p, h p = none → L (.ref p) (up h p (.lst ys))
  | [.rl ys] => ∀ p, h p = none → L (.ref p) (up h p (.lst ys))
  | [.ref a] => (match h a with
    | some (.lst ys) => ∀ p, h p = none → L (.ref p) (up h p (.lst ys))
    | _ => False)
  | _ => False
def rListOf (K : PySem.W.Frag) : List V → Hp → VK → Prop := fun xs H Q => ∃ p ys, xs = [.ref p] ∧ (SqL K H p ys ∨ SqT K H p ys) ∧ ∀ l, H l = none → Q (.ref l) (upd H l (.lst ys))
theorem src_list : SRC K (rListOf K) gList := fun H h xs vs L Q rh rx g o => by
  unfold gList at g
  split at g
  · cases rx with
    | cons r t =>
      cases t
      cases r with
      | tup ht hr => exact ⟨_, _, rfl, .inr ht, fun p hp => o _ _ (.ref p) _ (.new hp) (rh.lay hp (.mkL upd_same (hr.mono (.new hp)))) (.ref p) (g p (rh.fresh hp))⟩
  · cases rx with
    | cons r t =>
      cases t
      cases r with
      | rl ht hr => exact ⟨_, _, rfl, .inl ht.sq, fun p hp => o _ _ (.ref p) _ (.new hp) (rh.lay hp (.mkL upd_same (hr.mono (.new hp)))) (.ref p) (g p (rh.fresh hp))⟩
  · rename_i a
    cases rx with
    | cons r t =>
      cases t
      cases r
      split at g
      · rename_i ys ea
        obtain ⟨vs, e1, hr⟩ := rh a _ ea
        exact ⟨_, _, rfl, .inl (.of e1), fun p hp => o _ _ (.ref p) _ (.new hp) (rh.lay hp (.mkL upd_same (hr.mono (.new hp)))) (.ref p) (g p (rh.fresh hp))⟩
      · exact g.elim
  · exact g.elim
/-- tuple(x) -/
def gTuple : LCR := fun xs h L => match xs with
  | [.tup ys] => L (.tup ys) h
  | [.rl ys] => L (.tup ys) h
  | [.ref a] => (match h a with
    | some (.lst ys) => L (.tup ys) h
    | _ => False)
  | _ => False
def rTupOf (K : PySem.W.Frag) : List V → Hp → VK → Prop := fun xs H Q => ∃ p ys, xs = [.ref p] ∧ ((SqL K H p ys ∧ ∀ l, H l = none → Q (.ref l) (upd H l (.tup ys))) ∨ (SqT K H p ys ∧ Q (.ref p) H))
theorem src_tuple : SRC K (rTupOf K) gTuple := fun H h xs vs L Q rh rx g o => by
  unfold gTuple at g
  split at g
  · cases rx with
    | cons r t =>
      cases t
      cases r with
      | tup ht hr => exact ⟨_, _, rfl, .inr ⟨ht, o _ H _ h (.refl H) rh (.tup ht hr) g⟩⟩
  · cases rx with
    | cons r t =>
      cases t
      cases r with
      | rl ht hr => exact ⟨_, _, rfl, .inl ⟨ht.sq, fun p hp => o _ _ _ h (.new hp) (rh.new hp) (.tup (.of upd_same) (hr.mono (.new hp))) g⟩⟩
  · rename_i a
    cases rx with
    | cons r t =>
      cases t
      cases r
      split at g
      · rename_i ys ea
        obtain ⟨vs, e1, hr⟩ := rh a _ ea
        exact ⟨_, _, rfl, .inl ⟨.of e1, fun p hp => o _ _ _ h (.new hp) (rh.new hp) (.tup (.of upd_same) (hr.mono (.new hp))) g⟩⟩
      · exact g.elim
  · exact g.elim
/-- the items of a list or tuple by value -/
def seqOf (h : LH) : LV → Option (List LV)
  | .tup xs => some xs
  | .rl xs => some xs
  | .ref a => (match h a with
    | some (.lst xs) => some xs
    | _ => none)
  | _ => none
/-- .. of a list alone -/
def lstOf (h : LH) : LV → Option (List LV)
  | .rl xs => some xs
  | .ref a => (match h a with
    | some (.lst xs) => some xs
    | _ => none)
  | _ => none
theorem lstOf_ok {H : Hp} {h : LH} (rh : RH K H h) {x : LV} {v : V} {xs : List LV} (r : RV K H x v) (e : lstOf h x = some xs) : ∃ p vs, v = .ref p ∧ SqL K H p vs ∧ RVs K H xs vs := by
  unfold lstOf at e
  split at e
  · cases e
    cases r with
    | rl ht hr => exact ⟨_, _, rfl, ht.sq, hr⟩
  · rename_i a
    cases r
    split at e
    · rename_i ys ea
      cases e
      obtain ⟨vs, e1, hr⟩ := rh a _ ea
      exact ⟨a, vs, rfl, .of e1, hr⟩
    · cases e
  · cases e
theorem seqOf_ok {H : Hp} {h : LH} (rh : RH K H h) {x : LV} {v : V} {xs : List LV} (r : RV K H x v) (e : seqOf h x = some xs) : ∃ p vs, v = .ref p ∧ (SqL K H p vs ∨ SqT K H p vs) ∧ RVs K H xs vs := by
  unfold seqOf at e
  split at e
  · cases e
    cases r with
    | tup ht hr => exact ⟨_, _, rfl, .inr ht, hr⟩
  · cases e
    cases r with
    | rl ht hr => exact ⟨_, _, rfl, .inl ht.sq, hr⟩
  · rename_i a
    cases r
    split at e
    · rename_i ys ea
      cases e
      obtain ⟨vs, e1, hr⟩ := rh a _ ea
      exact ⟨a, vs, rfl, .inl (.of e1), hr⟩
    · cases e
  · cases e
def intsOf : List LV → Option (List Int)
  | [] => some []
  | .int i :: r => (match intsOf r with
    | some is => some (i :: is)
    | none => none)
  | _ => none
theorem intsOf_ok {H : Hp} : ∀ {xs : List LV} {vs : List V} {is : List Int}, RVs K H xs vs → intsOf xs = some is → vs = is.map V.int
  | [], _, _, .nil, e => by cases e; rfl
  | x :: xs, _, is, .cons a b, e => by
    unfold intsOf at e
    split at e
    · rename_i i r q
      cases q
    · rename_i i r q
      cases q
      split at e
      · rename_i is' e1
        cases e
        cases a
        rw [intsOf_ok b e1]
        rfl
      · cases e
    · cases e
theorem intsOf_map : ∀ is : List Int, intsOf (is.map LV.int) = some is
  | [] => rfl
  | i :: r => by
    show (match intsOf (r.map LV.int) with
    | some is => some (i :: is)
    | none => none) = some (i :: r)
    rw [intsOf_map r]
def blsOf : List LV → Option (List Bool)
  | [] => some []
  | .bl i :: r => (match blsOf r with
    | some is => some (i :: is)
    | none => none)
  | _ => none
theorem blsOf_ok {H : Hp} : ∀ {xs : List LV} {vs : List V} {is : List Bool}, RVs K H xs vs → blsOf xs = some is → vs = is.map V.bl
  | [], _, _, .nil, e => by cases e; rfl
  | x :: xs, _, is, .cons a b, e => by
    unfold blsOf at e
    split at e
    · rename_i i r q
      cases q
    · rename_i i r q
      cases q
      split at e
      · rename_i is' e1
        cases e
        cases a
        rw [blsOf_ok b e1]
        rfl
      · cases e
    · cases e
theorem blsOf_map : ∀ is : List Bool, blsOf (is.map LV.bl) = some is
  | [] => rfl
  | i :: r => by
    show (match blsOf (r.map LV.bl) with
    | some is => some (i :: is)
    | none => none) = some (i :: r)
    rw [blsOf_map r]
def strsOf : List LV → Option (List Str)
  | [] => some []
  | .str i :: r => (match strsOf r with
    | some is => some (i :: is)
    | none => none)
  | _ => none
theorem strsOf_ok {H : Hp} : ∀ {xs : List LV} {vs : List V} {is : List Str}, RVs K H xs vs → strsOf xs = some is → vs = is.map V.str
  | [], _, _, .nil, e => by cases e; rfl
  | x :: xs, _, is, .cons a b, e => by
    unfold strsOf at e
    split at e
    · rename_i i r q
      cases q
    · rename_i i r q
      cases q
      split at e
      · rename_i is' e1
        cases e
        cases a
        rw [strsOf_ok b e1]
        rfl
      · cases e
    · cases e
theorem strsOf_map : ∀ is : List Str, strsOf (is.map LV.str) = some is
  | [] => rfl
  | i :: r => by
    show (match strsOf (r.map LV.str) with
    | some is => some (i :: is)
    | none => none) = some (i :: r)
    rw [strsOf_map r]
/-- sum, all, any of a list -/
def gSum : LCR := fun xs h L => match xs with
  | [x] => (match lstOf h x with
    | some ys => (match intsOf ys with
      | some ns => L (.int ns.sum) h
      | none => False)
    | none => False)
  | _ => False
def gBls (f : List Bool → Bool) : LCR := fun xs h L => match xs with
  | [x] => (match lstOf h x with
    | some ys => (match blsOf ys with
      | some ns => L (.bl (f ns)) h
      | none => False)
    | none => False)
  | _ => False
abbrev gAll : LCR := gBls fun bs => bs.all id
abbrev gAny : LCR := gBls fun bs => bs.any id
theorem src_sum : SRC K (rSum K) gSum := fun H h xs vs L Q rh rx g o => by
  unfold gSum at g
  split at g
  · cases rx with
    | cons r t =>
      cases t
      split at g
      · rename_i ys e1
        split at g
        · rename_i ns e2
          obtain ⟨p, ws, rfl, hs, hr⟩ := lstOf_ok rh r e1
          rw [intsOf_ok hr e2] at hs
          exact ⟨p, ns, rfl, hs, o _ H _ h (.refl H) rh (.int _) g⟩
        · exact g.elim
      · exact g.elim
  · exact g.elim
theorem src_bls {f : List Bool → Bool} : SRC K (fun vs H Q => ∃ (a : Addr) (bs : List Bool), vs = [V.ref a] ∧ SqL K H a (bs.map V.bl) ∧ Q (.bl (f bs)) H) (gBls f) := fun H h xs vs L Q rh rx g o => by
  unfold gBls at g
  split at g
  · cases rx with
    | cons r t =>
      cases t
      split at g
      · rename_i ys e1
        split at g
        · rename_i ns e2
          obtain ⟨p, ws, rfl, hs, hr⟩ := lstOf_ok rh r e1
          rw [blsOf_ok hr e2] at hs
          exact ⟨p, ns, rfl, hs, o _ H _ h (.refl H) rh (.bl _) g⟩
        · exact g.elim
      · exact g.elim
  · exact g.elim
/-- max, min of a list of ints -/
def gMaxL (le : Int → Int → Prop) : LCR := fun xs h L => match xs with
  | [x] => (match lstOf h x with
    | some ys => (match intsOf ys with
      | some ns => 0 < ns.length ∧ ∀ m, m ∈ ns → (∀ y, y ∈ ns → le y m) → L (.int m) h
      | none => False)
    | none => False)
  | _ => False
theorem src_maxL : SRC K (rMax K) (gMaxL fun y m => y ≤ m) := fun H h xs vs L Q rh rx g o => by
  unfold gMaxL at g
  split at g
  · cases rx with
    | cons r t =>
      cases t
      split at g
      · rename_i ys e1
        split at g
        · rename_i ns e2
          obtain ⟨p, ws, rfl, hs, hr⟩ := lstOf_ok rh r e1
          rw [intsOf_ok hr e2] at hs
          exact ⟨p, ns, rfl, hs, g.1, fun m h1 h2 => o _ H _ h (.refl H) rh (.int _) (g.2 m h1 h2)⟩
        · exact g.elim
      · exact g.elim
  · exact g.elim
theorem src_minL : SRC K (rMin K) (gMaxL fun y m => m ≤ y) := fun H h xs vs L Q rh rx g o => by
  unfold gMaxL at g
  split at g
  · cases rx with
    | cons r t =>
      cases t
      split at g
      · rename_i ys e1
        split at g
        · rename_i ns e2
          obtain ⟨p, ws, rfl, hs, hr⟩ := lstOf_ok rh r e1
          rw [intsOf_ok hr e2] at hs
          exact ⟨p, ns, rfl, hs, g.1, fun m h1 h2 => o _ H _ h (.refl H) rh (.int _) (g.2 m h1 h2)⟩
        · exact g.elim
      · exact g.elim
  · exact g.elim
/-- divmod -/
def gDivmod : LCR := fun xs h L => match xs with
  | [.int i, .int j] => CDiv i j ∧ L (.tup [.int (i / j), .int (i % j)]) h
  | _ => False
theorem src_divmod : SRC K (fun xs H Q => ∃ i j, xs = [.int i, .int j] ∧ CDiv i j ∧ ∀ p, H p = none → Q (.ref p) (upd H p (.tup [.int (i / j), .int (i % j)]))) gDivmod := fun H h xs vs L Q rh rx g o => by
  unfold gDivmod at g
  split at g
  · cases rx with
    | cons r t =>
      cases t with
      | cons r2 t => cases t; cases r; cases r2; exact ⟨_, _, rfl, g.1, fun p hp => o _ _ _ h (.new hp) (rh.new hp) (.tup (.of upd_same) (.cons (.int _) (.cons (.int _) .nil))) g.2⟩
  · exact g.elim
/-- isinstance against one built-in class, or a tuple of such -/
def lty (h : LH) : LV → Option String
  | .non => some "NoneType"
  | .bl _ => some "bool"
  | .int _ => some "int"
  | .str _ => some "str"
  | .tup _ => some "tuple"
  | .rl _ => some "list"
  | .ref a => (match h a with
    | some (.lst _) => some "list"
    | some (.dic _) => some "dict"
    | _ => none)
  | _ => none
/-- the answer, by written names -/
def isiT : String → String → Bool := fun a b => decide (a = b) || (decide (a = "bool") && decide (b = "int"))
def tyNames : List String := ["NoneType", "bool", "int", "str", "tuple", "list", "dict"]
theorem isi0 : (tyNames.all fun a => tyNames.all fun b => decide (b = "NoneType") || decide (kitB a b = some (isiT a b))) = true := by decide +kernel
theorem isi_ok {a b : String} (ha : a ∈ tyNames) (hb : b ∈ tyNames) (hn : b ≠ "NoneType") : kitB a b = some (isiT a b) := by
  have h := List.all_eq_true.mp (List.all_eq_true.mp isi0 a ha) b hb
  rw [decide_eq_false hn, Bool.false_or] at h
  exact of_decide_eq_true h
theorem lty_ok {H : Hp} {h : LH} (rh : RH K H h) {x : LV} {v : V} {t : String} (r : RV K H x v) (e : lty h x = some t) : TyX K H v (.type t) ∧ t ∈ tyNames := by
  cases r with
  | non => cases e; exact ⟨.base .non, by decide⟩
  | bl b => cases e; exact ⟨.base (.bl _), by decide⟩
  | int b => cases e; exact ⟨.base (.int _), by decide⟩
  | str b => cases e; exact ⟨.base (.str _), by decide⟩
  | ty b => cases e
  | exc _ => cases e
  | cl _ => cases e
  | xt _ _ => cases e
  | tup ht hr =>
    cases e
    refine ⟨?_, by decide⟩
    rcases ht with (ht | ⟨o, ht⟩) | ⟨o, its, n, k, c, _⟩
    · exact .base (.tup ht)
    · exact .fTuple ht
    · exact .kTuple k c
  | rl ht hr =>
    cases e
    refine ⟨?_, by decide⟩
    rcases ht with ⟨o, ht⟩ | ⟨o, its, n, k, c, _⟩
    · exact .base (.frz ht)
    · exact .kList k c
  | ref a =>
    unfold lty at e
    simp only at e
    split at e
    · rename_i ys ea
      obtain ⟨vs, e1, hr⟩ := rh a _ ea
      cases e
      exact ⟨.base (.lst e1), by decide⟩
    · rename_i ys ea
      obtain ⟨vs, e1, hr⟩ := rh a _ ea
      cases e
      exact ⟨.base (.dK e1), by decide⟩
    · cases e
def tysOf : List LV → Option (List String)
  | [] => some []
  | .ty n :: r => (match tysOf r with
    | some is => some (n :: is)
    | none => none)
  | _ => none
def gIsi : LCR := fun xs h L => match xs with
  | [x, .ty b] => (match lty h x with
    | some a => b ∈ tyNames ∧ b ≠ "NoneType" ∧ L (.bl (isiT a b)) h
    | none => False)
  | [x, .tup ts] => (match lty h x, tysOf ts with
    | some a, some bs => (∀ b ∈ bs, b ∈ tyNames ∧ b ≠ "NoneType") ∧ L (.bl (bs.any (isiT a))) h
    | _, _ => False)
  | _ => False
theorem tysOf_ok {H : Hp} : ∀ {xs : List LV} {vs : List V} {is : List String}, RVs K H xs vs → tysOf xs = some is → Paired ClsV vs (is.map Value.type)
  | [], _, _, .nil, e => by cases e; exact .nil
  | x :: xs, _, is, .cons a b, e => by
    unfold tysOf at e
    split at e
    · rename_i i r q
      cases q
    · rename_i i r q
      cases q
      split at e
      · rename_i is' e1
        cases e
        cases a
        exact .cons (.ty _) (tysOf_ok b e1)
      · cases e
    · cases e
theorem kitAny_ok {a : String} (ha : a ∈ tyNames) : ∀ {bs : List String}, (∀ b ∈ bs, b ∈ tyNames ∧ b ≠ "NoneType") → PySem.W.kitAny K (.type a) (bs.map Value.type) = some (bs.any (isiT a))
  | [], _ => rfl
  | b :: bs, h => by
    obtain ⟨h1, h2⟩ := h b List.mem_cons_self
    refine kitAny_cons (kit_ty (isi_ok ha h1 h2)) (fun e => ?_) (fun e => ?_)
    · rw [List.any_cons, e, Bool.false_or]
      exact kitAny_ok ha fun c hc => h c (List.mem_cons_of_mem _ hc)
    · rw [List.any_cons, e, Bool.true_or]
def rIsiT2 (K : PySem.W.Frag) : List V → Hp → VK → Prop := fun xs H Q => ∃ (x : V) (tp : Addr) (cs : List V) (t : Value) (us : List Value) (b : Bool), xs = [x, .ref tp] ∧ SqT K H tp cs ∧ Paired ClsV cs us ∧ TyX K H x t ∧ PySem.W.kitAny K t us = some b ∧ Q (.bl b) H
theorem call_isiT2 {X : Cx} : CallR X (.builtin "isinstance") (rIsiT2 X.K) := by
  intro pins s σ H xs us Q I r h
  obtain ⟨x, tp, cs, t, ws, b, rfl, hT, k, ty, e, q⟩ := h
  cases r with
  | cons r1 r =>
    cases r with
    | cons r2 r =>
      cases r
      cases r2
      obtain ⟨P, Z, p, hx⟩ := kit_of I r1 ty
      obtain ⟨its, rv, ⟨o, h1, h2, n, h3⟩, _⟩ := I.tuple hT
      have e3 := ClsV.all k rv
      subst e3
      obtain ⟨oc, od, dt, sl⟩ := o
      simp only at h2 h3
      subst h2 h3
      exact PySem.W.kia_tup Z I.kIn p h1 e hx fun tk => ⟨.bl b, H, I.tok tk, rfl, q⟩
def rIsi2 (K : PySem.W.Frag) : List V → Hp → VK → Prop := fun vs H Q => rIsi K vs H Q ∨ (rIsiT2 K vs H Q)
theorem call_isi2 {X : Cx} : CallR X (.builtin "isinstance") (rIsi2 X.K) := CallR.or call_isi call_isiT2
theorem src_isi : SRC K (rIsi2 K) gIsi := fun H h xs vs L Q rh rx g o => by
  unfold gIsi at g
  split at g
  · cases rx with
    | cons r t =>
      cases t with
      | cons r2 t =>
        cases t
        cases r2
        split at g
        · rename_i a e
          obtain ⟨h1, h2⟩ := lty_ok rh r e
          exact .inl ⟨_, _, _, _, _, rfl, .ty _, h1, kit_ty (isi_ok h2 g.1 g.2.1), o _ H _ h (.refl H) rh (.bl _) g.2.2⟩
        · exact g.elim
  · cases rx with
    | cons r t =>
      cases t with
      | cons r2 t =>
        cases t
        cases r2 with
        | tup ht hr =>
          split at g
          · rename_i a bs e e2
            obtain ⟨h1, h2⟩ := lty_ok rh r e
            exact .inr ⟨_, _, _, _, _, _, rfl, ht, tysOf_ok hr e2, h1, kitAny_ok h2 g.1, o _ H _ h (.refl H) rh (.bl _) g.2⟩
          · exact g.elim
  · exact g.elim
end
end VL

set_option Elab.async false
set_option linter.all false
set_option maxRecDepth 100000
set_option maxHeartbeats 2000000
namespace VL
open PySem PySem.Spec PyProof.Rows L2
/-! ### methods of built-in types -/
abbrev LMR := LV → List LV → LH → LK → Prop
def SRM (K : PySem.W.Frag) (r : V → List V → Hp → VK → Prop) (g : LMR) : Prop := ∀ (H : Hp) (h : LH) (x : LV) (xs : List LV) (v : V) (vs : List V) (L : LK) (Q : VK), RH K H h → RV K H x v → RVs K H xs vs → g x xs h L → OutV K H Q L → r v vs H Q
def lTy (T : String) (x : LV) (h : LH) : Prop := match x with
  | .str _ => T = "str"
  | .rl _ => T = "list"
  | .ref a => (match h a with
    | some (.lst _) => T = "list"
    | some (.dic _) => T = "dict"
    | _ => False)
  | _ => False
theorem lTy_ok {K : PySem.W.Frag} {H : Hp} {h : LH} (rh : RH K H h) {T : String} {x : LV} {v : V} (r : RV K H x v) (t : lTy T x h) : tyV K T v H := by
  cases r with
  | str z => exact t
  | rl ht hr => exact .inl ⟨t, _, ht.sq⟩
  | ref a =>
    unfold lTy at t
    simp only at t
    split at t
    · rename_i xs ea
      obtain ⟨vs, e1, _⟩ := rh a _ ea
      exact .inl ⟨t, _, .of e1⟩
    · rename_i xs ea
      obtain ⟨vs, e1, _⟩ := rh a _ ea
      exact .inr (.inr (.inl ⟨t, .inl ⟨_, e1⟩⟩))
    · exact t.elim
  | _ => exact t.elim
def lBM (T : String) (g : LMR) (lo : LTE) (la : LTA) : LTE := fun s h E L => lo s h E fun x h1 => lTy T x h1 ∧ la s h1 E fun xs h2 => g x xs h2 L
section
variable {X : Cx} {W : WX} {o e f : Expr} {es : List Expr} {lo la le : LTE} {lr : LTA} {name : Str} {apos cpos pos : Pos} {T id : String} {r : V → List V → Hp → VK → Prop} {g : LMR}
theorem le_bm0 (pa : PlainAttrs T) (slot : Slot T name id) (hty : typeOf (.builtin id) = pure (.type "method_descriptor")) (hm : MtR X id r) (sr : SRM X.K r g) (ho : LE X W o lo)
    (hbase : attributeBase o name X.env (eval o X.env) = eval o X.env := by rfl) (hline : (apos.endLine == cpos.line) = true := by rfl) : LE X W (.Call (.Attribute o name apos) [] [] cpos) (lBM T g lo lNil) :=
  peW (pe_bm0 pa slot hty hm ho hbase hline) fun σ H Q ⟨s, h, E, L, z, hl, out⟩ => ⟨s, h, E, _, z, hl, fun v H1 x h1 t1 r1 rx q1 => ⟨lTy_ok r1 rx q1.1, sr H1 h1 x [] v [] L Q r1 rx .nil q1.2 (out.step t1)⟩⟩
theorem le_bm (pa : PlainAttrs T) (slot : Slot T name id) (hty : typeOf (.builtin id) = pure (.type "method_descriptor")) (hm : MtR X id r) (sr : SRM X.K r g) (ho : LE X W o lo) (ha : LA X W (e :: es) lr)
    (hbase : attributeBase o name X.env (eval o X.env) = eval o X.env := by rfl)
    (hfew : ((backTo cpos (starEach (e :: es) X.env)).all (fun x => !x.1) && (backToKw cpos (keywordEach [] X.env)).all (fun x => x.1.isSome)
      && decide ((e :: es).length + ([] : List Keyword).length + (if ([] : List Keyword).isEmpty then 0 else 1) < 30)) = true := by rfl)
    (hline : (apos.endLine == cpos.line) = true := by rfl) (hs : starEach (e :: es) X.env = (false, eval e X.env) :: starEach es X.env := by rfl) (hplain : (backTo cpos (starEach es X.env)).any (·.1) = false := by rfl) :
    LE X W (.Call (.Attribute o name apos) (e :: es) [] cpos) (lBM T g lo lr) :=
  peW (pe_bm pa slot hty hm ho ha hbase hfew hline hs hplain) fun σ H Q ⟨s, h, E, L, z, hl, out⟩ => ⟨s, h, E, _, z, hl, fun v H1 x h1 t1 r1 rx q1 => ⟨lTy_ok r1 rx q1.1, s, h1, E, _, z.step t1 r1, q1.2, fun vs H2 xs h2 t2 r2 rxs q2 =>
    sr H2 h2 x xs v vs L Q r2 (rx.mono t2) rxs q2 (out.step (t1.trans t2))⟩⟩
end
section
variable {K : PySem.W.Frag}
theorem TLe.lst {H : Hp} {a : Addr} {xs : List V} {o : HO} (e : H a = some (.lst xs)) : TLe K H (L2.upd H a o) := TLe.upd (H := H) (a := a) (fun vs z => by rw [e] at z; cases z) (fun ob u z => by rw [e] at z; cases z) (fun ob z => by rw [e] at z; cases z) fun ob z => by rw [e] at z; cases z
theorem TLe.dK {H : Hp} {a : Addr} {xs : List (Key × V)} {o : HO} (e : H a = some (.dK xs)) : TLe K H (L2.upd H a o) := TLe.upd (H := H) (a := a) (fun vs z => by rw [e] at z; cases z) (fun ob u z => by rw [e] at z; cases z) (fun ob z => by rw [e] at z; cases z) fun ob z => by rw [e] at z; cases z
theorem TLe.ins {H : Hp} {a C dx : Addr} {xs : List (Str × V)} {o : HO} (e : H a = some (.ins C dx xs)) : TLe K H (L2.upd H a o) := TLe.upd (H := H) (a := a) (fun vs z => by rw [e] at z; cases z) (fun ob u z => by rw [e] at z; cases z) (fun ob z => by rw [e] at z; cases z) fun ob z => by rw [e] at z; cases z
/-- a list's change by its items -/
def gLm (f : List LV → List LV → Option (List LV × LV)) : LMR := fun x xs h L => match x with
  | .ref a => (match h a with
    | some (.lst ys) => (match f ys xs with
      | some (zs, v) => L v (up h a (.lst zs))
      | none => False)
    | _ => False)
  | _ => False
def gAppend : LMR := gLm fun ys xs => match xs with
  | [x] => if ys.length < 100000 then some (ys ++ [x], .non) else none
  | _ => none
def gReverse : LMR := gLm fun ys xs => match xs with
  | [] => some (ys.reverse, .non)
  | _ => none
def gClear : LMR := gLm fun ys xs => match xs with
  | [] => some ([], .non)
  | _ => none
def gPop0 : LMR := gLm fun ys xs => match xs with
  | [] => (match ys[ys.length - 1]? with
    | some y => some (ys.dropLast, y)
    | none => none)
  | _ => none
def gPop1 : LMR := gLm fun ys xs => match xs with
  | [.int i] => if 0 ≤ i ∧ i < 100000 then (match ys[i.toNat]? with
    | some y => some (ys.eraseIdx i.toNat, y)
    | none => none) else none
  | _ => none
def gInsert : LMR := gLm fun ys xs => match xs with
  | [.int i, y] => if 0 ≤ i ∧ i < 100000 ∧ ys.length < 100000 then some (ys.take i.toNat ++ [y] ++ ys.drop i.toNat, .non) else none
  | _ => none
theorem szlt {n : Nat} (h : n < 100000) : n < sizeLine := Nat.lt_of_lt_of_le h (by decide)
theorem srm_append : SRM K rAppend gAppend := fun H h x xs v vs L Q rh rx rxs g o => by
  unfold gAppend gLm at g
  split at g
  · rename_i a
    cases rx
    split at g
    · rename_i ys ea
      obtain ⟨ws, e1, hr⟩ := rh a _ ea
      split at g
      · rename_i zs v e
        dsimp only at e
        split at e
        · split at e
          · rename_i x hz
            cases e
            cases rxs with
            | cons r1 t =>
              cases t
              refine ⟨a, ws, _, rfl, rfl, e1, by rw [← hr.length]; exact szlt hz, o _ _ .non _ (.lst e1) (rh.upd (.lst e1) (.mkL upd_same ((hr.append (.cons r1 .nil)).mono (.lst e1)))) .non g⟩
          · cases e
        · cases e
      · exact g.elim
    · exact g.elim
  · exact g.elim
theorem srm_reverse : SRM K rReverse gReverse := fun H h x xs v vs L Q rh rx rxs g o => by
  unfold gReverse gLm at g
  split at g
  · rename_i a
    cases rx
    split at g
    · rename_i ys ea
      obtain ⟨ws, e1, hr⟩ := rh a _ ea
      split at g
      · rename_i zs v e
        dsimp only at e
        split at e
        · cases e
          cases rxs
          exact ⟨a, ws, rfl, rfl, e1, o _ _ .non _ (.lst e1) (rh.upd (.lst e1) (.mkL upd_same (hr.reverse.mono (.lst e1)))) .non g⟩
        · cases e
      · exact g.elim
    · exact g.elim
  · exact g.elim
theorem srm_clear : SRM K rClear gClear := fun H h x xs v vs L Q rh rx rxs g o => by
  unfold gClear gLm at g
  split at g
  · rename_i a
    cases rx
    split at g
    · rename_i ys ea
      obtain ⟨ws, e1, hr⟩ := rh a _ ea
      split at g
      · rename_i zs v e
        dsimp only at e
        split at e
        · cases e
          cases rxs
          exact ⟨a, ws, rfl, rfl, e1, o _ _ .non _ (.lst e1) (rh.upd (.lst e1) (.mkL upd_same .nil)) .non g⟩
        · cases e
      · exact g.elim
    · exact g.elim
  · exact g.elim
theorem srm_pop0 : SRM K rPop gPop0 := fun H h x xs v vs L Q rh rx rxs g o => by
  unfold gPop0 gLm at g
  split at g
  · rename_i a
    cases rx
    split at g
    · rename_i ys ea
      obtain ⟨ws, e1, hr⟩ := rh a _ ea
      split at g
      · rename_i zs v e
        dsimp only at e
        split at e
        · split at e
          · rename_i y hy
            cases e
            cases rxs
            obtain ⟨w, hw, rw'⟩ := hr.get hy
            rw [hr.length] at hw
            exact ⟨a, ws, w, rfl, rfl, e1, hw, o _ _ v _ (.lst e1) (rh.upd (.lst e1) (.mkL upd_same (hr.dropLast.mono (.lst e1)))) (rw'.mono (.lst e1)) g⟩
          · cases e
        · cases e
      · exact g.elim
    · exact g.elim
  · exact g.elim
theorem srm_pop1 : SRM K rPopAt gPop1 := fun H h x xs v vs L Q rh rx rxs g o => by
  unfold gPop1 gLm at g
  split at g
  · rename_i a
    cases rx
    split at g
    · rename_i ys ea
      obtain ⟨ws, e1, hr⟩ := rh a _ ea
      split at g
      · rename_i zs v e
        dsimp only at e
        split at e
        · rename_i i
          split at e
          · rename_i hi
            split at e
            · rename_i y hy
              cases e
              cases rxs with
              | cons r1 t =>
                cases t
                cases r1
                obtain ⟨w, hw, rw'⟩ := hr.get hy
                have hlt : i.toNat < ws.length := (List.getElem?_eq_some_iff.mp hw).1
                exact ⟨a, ws, i, i.toNat, w, rfl, rfl, e1, by omega, by omega, PySem.seqIndex_of hi.1 (by omega), hw, o _ _ v _ (.lst e1) (rh.upd (.lst e1) (.mkL upd_same ((hr.eraseIdx _).mono (.lst e1)))) (rw'.mono (.lst e1)) g⟩
            · cases e
          · cases e
        · cases e
      · exact g.elim
    · exact g.elim
  · exact g.elim
theorem srm_insert : SRM K (fun x vs H Q => ∃ (l : Addr) (xs : List V) (i : Int) (y : V), x = .ref l ∧ vs = [.int i, y] ∧ H l = some (.lst xs) ∧ xs.length < sizeLine ∧ 0 ≤ i ∧ i < 2 ^ 63 ∧
    Q .non (upd H l (.lst (xs.take i.toNat ++ [y] ++ xs.drop i.toNat)))) gInsert := fun H h x xs v vs L Q rh rx rxs g o => by
  unfold gInsert gLm at g
  split at g
  · rename_i a
    cases rx
    split at g
    · rename_i ys ea
      obtain ⟨ws, e1, hr⟩ := rh a _ ea
      split at g
      · rename_i zs v e
        dsimp only at e
        split at e
        · rename_i i y
          split at e
          · rename_i hi
            cases e
            cases rxs with
            | cons r1 t =>
              cases t with
              | cons r2 t =>
                cases t
                cases r1
                exact ⟨a, ws, i, _, rfl, rfl, e1, by rw [← hr.length]; exact szlt hi.2.2, hi.1, by omega, o _ _ .non _ (.lst e1) (rh.upd (.lst e1) (.mkL upd_same ((((hr.take _).append (.cons r2 .nil)).append (hr.drop _)).mono (.lst e1)))) .non g⟩
          · cases e
        · cases e
      · exact g.elim
    · exact g.elim
  · exact g.elim
/-- xs.extend(ys), ys a list -/
def gExtend : LMR := fun x xs h L => match x, xs with
  | .ref a, [.ref b] => (match h a, h b with
    | some (.lst ys), some (.lst zs) => ys.length + zs.length ≤ 100000 ∧ L .non (up h a (.lst (ys ++ zs)))
    | _, _ => False)
  | _, _ => False
theorem srm_extend : SRM K rExtend gExtend := fun H h x xs v vs L Q rh rx rxs g o => by
  unfold gExtend at g
  split at g
  · rename_i a b
    cases rx
    cases rxs with
    | cons r1 t =>
      cases t
      cases r1
      split at g
      · rename_i ys zs ea eb
        obtain ⟨ws, e1, hr⟩ := rh a _ ea
        obtain ⟨us, e2, hq⟩ := rh b _ eb
        exact ⟨a, b, ws, us, rfl, rfl, e1, e2, by rw [← hr.length, ← hq.length]; exact szl g.1, o _ _ .non _ (.lst e1) (rh.upd (.lst e1) (.mkL upd_same ((hr.append hq).mono (.lst e1)))) .non g.2⟩
      · exact g.elim
  · exact g.elim
/-- xs.index(y), flat items: the first place -/
def gIndex : LMR := fun x xs h L => match xs with
  | [y] => (match lstOf h x, lfl y with
    | some ys, some w => (match lfls ys with
      | some ws => ∃ j z, ws[j]? = some z ∧ eqV z w = true ∧ (∀ m z', m < j → ws[m]? = some z' → eqV z' w = false) ∧ L (.int (j : Nat)) h
      | none => False)
    | _, _ => False)
  | _ => False
theorem srm_index : SRM K (rIndex K) gIndex := fun H h x xs v vs L Q rh rx rxs g o => by
  unfold gIndex at g
  split at g
  · rename_i y
    cases rxs with
    | cons r1 t =>
      cases t
      split at g
      · rename_i ys w e1 e2
        split at g
        · rename_i ws e3
          obtain ⟨j, z, hz, he, hn, q⟩ := g
          obtain ⟨p, us, rfl, hs, hr⟩ := lstOf_ok rh rx e1
          obtain ⟨rfl, f1⟩ := lfl_ok r1 e2
          obtain ⟨rfl, f2⟩ := lfls_ok hr e3
          exact ⟨p, _, _, j, z, rfl, rfl, hs, f1, f2, hz, he, hn, o _ H _ h (.refl H) rh (.int _) q⟩
        · exact g.elim
      · exact g.elim
  · exact g.elim
/-- z.index(c): texts -/
def gSIndex : LMR := fun x xs h L => match x, xs with
  | .str a, [.str b] => (match Txt.index0 a b with
    | some k => L (.int (k : Nat)) h
    | none => False)
  | _, _ => False
theorem le_sindex {X : Cx} {W : WX} {o e : Expr} {lo : LTE} {lr : LTA} {apos cpos : Pos} (hc : X.calm = true) (tk : Takes X W) (ho : LE X W o lo) (ha : LA X W [e] lr)
    (hbase : attributeBase o "index" X.env (eval o X.env) = eval o X.env := by rfl)
    (hfew : ((backTo cpos (starEach [e] X.env)).all (fun x => !x.1) && (backToKw cpos (keywordEach [] X.env)).all (fun x => x.1.isSome)
      && decide ([e].length + ([] : List Keyword).length + (if ([] : List Keyword).isEmpty then 0 else 1) < 30)) = true := by rfl)
    (hline : (apos.endLine == cpos.line) = true := by rfl) (hs : starEach [e] X.env = (false, eval e X.env) :: starEach [] X.env := by rfl) (hplain : (backTo cpos (starEach [] X.env)).any (·.1) = false := by rfl) :
    LE X W (.Call (.Attribute o "index" apos) [e] [] cpos) (lBM "str" gSIndex lo lr) :=
  peW (pe_bmS PySem.F.plainAttrs_str PySem.F.slot_str_index PySem.F.type_str_index (mt_indexX hc tk) ho ha hbase hfew hline hs hplain) fun σ H Q ⟨s, h, E, L, z, hl, out⟩ => ⟨s, h, E, _, z, hl, fun v H1 x h1 t1 r1 rx q1 => ⟨lTy_ok r1 rx q1.1, s, h1, E, _, z.step t1 r1, q1.2, fun vs H2 xs h2 t2 r2 rxs q2 => by
    unfold gSIndex at q2
    split at q2
    · rename_i a b
      cases rx
      cases rxs with
      | cons rr t =>
        cases t
        cases rr
        split at q2
        · rename_i k e
          exact ⟨a, b, rfl, rfl, fun k' e' => by rw [e] at e'; cases e'; exact (out.step (t1.trans t2)) _ H2 _ h2 (.refl H2) r2 (.int _) q2, fun e' => by rw [e] at e'; cases e'⟩
        · exact q2.elim
    · exact q2.elim⟩⟩
end

/-! ### own defs, methods, makings -/
section
variable {P : Program} {w : World} {K : PySem.W.Frag} {mg : Str → Option Value} {base : Heap}
def upSp (K : PySem.W.Frag) (ls : LSp) : Sp := fun vs H Q E => ∃ xs h LE L, RVs K H xs vs ∧ RH K H h ∧ ls xs h LE L ∧ OutV K H Q L ∧ ∀ c fs d H' h', TLe K H H' → RH K H' h' → RX K H' fs d → LE c fs h' → E (.ref (Cn.ad K c)) d H'
/-- the def at f keeps the promise ls, by k levels at most -/
abbrev LFn (P : Program) (w : World) (K : PySem.W.Frag) (mg : Str → Option Value) (base : Heap) (k : Nat) (f : Addr) (fd : FuncData) (ps : List Str) (ls : LSp) : Prop := FnOk P w K mg base (L2.CX P w) k f fd ps (upSp K ls)
end
def lCall (ls : LSp) (la : LTA) : LTE := fun s h E L => la s h E fun xs h1 => ls xs h1 E L
def lMeth (c : Cn) (ls : LSp) (lo : LTE) (la : LTA) : LTE := fun s h E L => lo s h E fun x h1 => match x with
  | .ref a => (match h1 a with
    | some (.ins c' _) => c' = c ∧ la s h1 E fun xs h2 => ls (.ref a :: xs) h2 E L
    | _ => False)
  | _ => False
def lMake (c : Cn) (ls : LSp) (la : LTA) : LTE := fun s h E L => la s h E fun xs h1 => ∀ x, h1 x = none → ls (.ref x :: xs) (up h1 x (.ins c [])) X0 fun v h2 => v = .non ∧ L (.ref x) h2
section
variable {X : Cx} {W : WX} {o e : Expr} {es : List Expr} {lo la le : LTE} {lr : LTA} {x m : Str} {p pos apos : Pos} {k : Nat} {f : Addr} {fd : FuncData} {ps : List Str} {ls : LSp} {c : Cn}
theorem call_imp {σ : L2.St} {H H1 : Hp} {s : LS} {h h1 : LH} {E : LX} {L : LK} {Q : VK} {xs : List LV} {vs : List V} (z : Sit X.K W σ H s h E) (out : OutV X.K H Q L) (t1 : TLe X.K H H1) (r1 : RH X.K H1 h1) (rxs : RVs X.K H1 xs vs) (q : ls xs h1 E L) :
    upSp X.K ls vs H1 Q (WE W σ) := ⟨xs, h1, E, L, rxs, r1, q, out.step t1, fun c fs d H' h' t2 r2 rd q2 => z.ox c fs d H' h' (t1.trans t2) r2 rd q2⟩
theorem le_call (F : LFn X.prog X.w X.K X.mg X.base k f fd ps ls) (hm : X.mg x = some (.ref f)) (hk : PySem.W.keepIn X.K (.ref f) = true) (hb : Binds X.K fd ps []) (hr : Room k X.A) (tk : Takes X W) (ha : LA X W (e :: es) lr) (hg : Gl X x := by rfl)
    (hdb : (x == ("__debug__" : Str)) = false := by decide) (he : starEach (e :: es) X.env = (false, eval e X.env) :: starEach es X.env := by rfl) (hpl : (backTo pos (starEach es X.env)).any (·.1) = false := by rfl) :
    LE X W (.Call (.Name x p) (e :: es) [] pos) (lCall ls lr) :=
  peW (pe_callSD F hr hg hm hk hb .nil (fun σ => passAt tk σ) ha hdb he hpl) fun σ H Q ⟨s, h, E, L, z, hl, out⟩ => ⟨s, h, E, _, z, hl, fun vs H1 xs h1 t1 r1 rxs q1 => by
    show upSp X.K ls (vs ++ []) H1 Q (WE W σ)
    rw [List.append_nil]
    exact call_imp z out t1 r1 rxs q1⟩
def tMethS (C : Addr) (m : Str) (sp : Sp) (E : L2.St → XK) (ta : TE) (t : TA) : TE := fun σ H Q => ta σ H fun x H1 => ∃ a dx fs, x = .ref a ∧ H1 a = some (.ins C dx fs) ∧ fs.lookup m = none ∧
  t σ H1 fun vs H2 => sp (x :: vs) H2 Q (E σ)
theorem pe_methSD {C : Addr} {CX : CXT} {sp : Sp} {E : L2.St → XK} {ta : TE} {t : TA} {pl : Sem Bool} (he : PE X o ta) (c : Cls X.K C) (hm : Meth X.K C m f) (F : FnOk X.prog X.w X.K X.mg X.base CX k f fd ps sp) (hr : Room k X.A) (hb : Binds X.K fd ps []) (hx : ∀ σ, PassesAt CX X σ (E σ)) (ha : PA X (e :: es) t)
    (hst : starEach (e :: es) X.env = (false, eval e X.env) :: starEach es X.env) (hpl : (backTo pos (starEach es X.env)).any (·.1) = false)
    (ht : eval (.Call (.Attribute o m apos) (e :: es) [] pos) X.env = (do
      let ov ← eval o X.env
      standAt apos.atName
      let (f, first) ← holding [ov] (getMethod ov m pl)
      callWith pos f first (backTo pos (starEach (e :: es) X.env)) (backToKw pos (keywordEach [] X.env)))) :
    PE X (.Call (.Attribute o m apos) (e :: es) [] pos) (tMethS C m sp E ta t) := by
  refine ⟨fun pins s σ H Q I h => ?_⟩
  refine PySem.W.methodCall_KW (pl := pl) (thn (he.run pins s σ H _ I h) fun u s1 ⟨x, H1, I1, rx, a, dx, fs, ex, ea, l, q⟩ => ?_) ht
  subst ex
  obtain rfl : u = Value.ref a := rx
  refine getmeth_ok I1 ea c hm l ?_
  refine PySem.W.callWith_K (first := [.ref a]) (h₀ := X.base) I.ok.mod.kin hm.kp (thn (ha.run pos pins s1 σ H1 _ I1 q) fun us s2 ⟨vs, H2, I2, r, q2⟩ => ⟨I2.kIn, ?_⟩) hst hpl
  exact run_fnSD (us := .ref a :: us) (vs := .ref a :: vs) F hr hb .nil (hx σ) I2 (.cons rfl r) (by rw [List.append_nil]; exact q2)
theorem pe_methSD0 {C : Addr} {CX : CXT} {sp : Sp} {E : L2.St → XK} {ta : TE} {pl : Sem Bool} (he : PE X o ta) (c : Cls X.K C) (hm : Meth X.K C m f) (F : FnOk X.prog X.w X.K X.mg X.base CX k f fd ps sp) (hr : Room k X.A) (hb : Binds X.K fd ps []) (hx : ∀ σ, PassesAt CX X σ (E σ))
    (ht : eval (.Call (.Attribute o m apos) [] [] pos) X.env = (do
      let ov ← eval o X.env
      standAt apos.atName
      let (f, first) ← holding [ov] (getMethod ov m pl)
      callWith pos f first (backTo pos (starEach [] X.env)) (backToKw pos (keywordEach [] X.env)))) :
    PE X (.Call (.Attribute o m apos) [] [] pos) (tMethS C m sp E ta tNil) := by
  refine ⟨fun pins s σ H Q I h => ?_⟩
  refine PySem.W.methodCall_KW (pl := pl) (thn (he.run pins s σ H _ I h) fun u s1 ⟨x, H1, I1, rx, a, dx, fs, ex, ea, l, q⟩ => ?_) ht
  subst ex
  obtain rfl : u = Value.ref a := rx
  refine getmeth_ok I1 ea c hm l ?_
  exact PySem.W.callWith_K0 (first := [.ref a]) I1.kIn hm.kp (run_fnSD (us := [.ref a]) (vs := [.ref a]) F hr hb .nil (hx σ) I1 (.cons rfl .nil) q)
theorem meth_imp (hnf : ∀ f : Fd, f.nm ≠ m) : ∀ σ H Q, upE X.K W (lMeth c ls lo lr) σ H Q → tMethS (c.ad X.K) m (upSp X.K ls) (WE W) (upE X.K W lo) (upA X.K W lr) σ H Q := fun σ H Q ⟨s, h, E, L, z, hl, out⟩ =>
  ⟨s, h, E, _, z, hl, fun v H1 x h1 t1 r1 rx q1 => by
    cases rx with
    | ref a =>
      have q2 : (match h1 a with
        | some (.ins c' _) => c' = c ∧ lr s h1 E fun xs h2 => ls (.ref a :: xs) h2 E L
        | _ => False) := q1
      split at q2
      · rename_i c' fs ea
        obtain ⟨rfl, q3⟩ := q2
        obtain ⟨dx, ws, e1, hr⟩ := r1 a _ ea
        exact ⟨a, dx, ws, rfl, e1, hr.fnone hnf, s, h1, E, _, z.step t1 r1, q3, fun vs H2 xs h2 t2 r2 rxs q4 => call_imp z out (t1.trans t2) r2 (.cons (.ref a) rxs) q4⟩
      · exact q2.elim
    | _ => exact q1.elim⟩
theorem le_meth {pl : Sem Bool} (ho : LE X W o lo) (cl : Cls X.K (c.ad X.K)) (hm : Meth X.K (c.ad X.K) m f) (F : LFn X.prog X.w X.K X.mg X.base k f fd ps ls) (hr : Room k X.A) (hb : Binds X.K fd ps []) (tk : Takes X W) (ha : LA X W (e :: es) lr) (hnf : ∀ f : Fd, f.nm ≠ m := by intro f; cases f <;> decide +kernel)
    (hst : starEach (e :: es) X.env = (false, eval e X.env) :: starEach es X.env := by rfl) (hpl : (backTo pos (starEach es X.env)).any (·.1) = false := by rfl)
    (ht : eval (.Call (.Attribute o m apos) (e :: es) [] pos) X.env = (do
      let ov ← eval o X.env
      standAt apos.atName
      let (f, first) ← holding [ov] (getMethod ov m pl)
      callWith pos f first (backTo pos (starEach (e :: es) X.env)) (backToKw pos (keywordEach [] X.env))) := by rfl) :
    LE X W (.Call (.Attribute o m apos) (e :: es) [] pos) (lMeth c ls lo lr) := peW (pe_methSD ho cl hm F hr hb (fun σ => passAt tk σ) ha hst hpl ht) (meth_imp hnf)
theorem le_meth0 {pl : Sem Bool} (ho : LE X W o lo) (cl : Cls X.K (c.ad X.K)) (hm : Meth X.K (c.ad X.K) m f) (F : LFn X.prog X.w X.K X.mg X.base k f fd ps ls) (hr : Room k X.A) (hb : Binds X.K fd ps []) (tk : Takes X W) (hnf : ∀ f : Fd, f.nm ≠ m := by intro f; cases f <;> decide +kernel)
    (ht : eval (.Call (.Attribute o m apos) [] [] pos) X.env = (do
      let ov ← eval o X.env
      standAt apos.atName
      let (f, first) ← holding [ov] (getMethod ov m pl)
      callWith pos f first (backTo pos (starEach [] X.env)) (backToKw pos (keywordEach [] X.env))) := by rfl) :
    LE X W (.Call (.Attribute o m apos) [] [] pos) (lMeth c ls lo lNil) := peW (pe_methSD0 ho cl hm F hr hb (fun σ => passAt tk σ) ht) fun σ H Q q => by
  obtain ⟨s, h, E, L, z, hl, out⟩ := meth_imp (X := X) (W := W) (lo := lo) (lr := lNil) (ls := ls) (c := c) hnf σ H Q q
  refine ⟨s, h, E, L, z, hl, fun v H1 x h1 t1 r1 rx q1 => ?_⟩
  obtain ⟨a, dx, fs, e1, e2, e3, s2, h2, E2, L2, z2, hl2, out2⟩ := out v H1 x h1 t1 r1 rx q1
  exact ⟨a, dx, fs, e1, e2, e3, out2 [] H1 [] h2 (.refl H1) z2.rh .nil hl2⟩
theorem le_make (M : Mk X.K (c.ad X.K) f) (F : LFn X.prog X.w X.K X.mg X.base k f fd ps ls) (hm : X.mg x = some (.ref (c.ad X.K))) (hb : Binds X.K fd ps []) (hr : Room (k + 1) X.A) (ha : LA X W (e :: es) lr) (hg : Gl X x := by rfl)
    (hdb : (x == ("__debug__" : Str)) = false := by decide) (he : starEach (e :: es) X.env = (false, eval e X.env) :: starEach es X.env := by rfl) (hpl : (backTo pos (starEach es X.env)).any (·.1) = false := by rfl) :
    LE X W (.Call (.Name x p) (e :: es) [] pos) (lMake c ls lr) :=
  peW (pe_make (E := E0) M F hr hg hm hb .nil passL ha hdb he hpl) fun σ H Q ⟨s, h, E, L, z, hl, out⟩ => ⟨s, h, E, _, z, hl, fun vs H1 xs h1 t1 r1 rxs q1 => fun x dx hx hdx hne => by
    rw [List.append_nil]
    have n2 : (upd H1 dx (.own x)) x = none := by rw [upd_ne (Ne.symm hne)]; exact hx
    have t2 : TLe X.K H1 (upd (upd H1 dx (.own x)) x (.ins (c.ad X.K) dx [])) := (TLe.new hdx).trans (.new n2)
    refine ⟨.ref x :: xs, _, X0, _, .cons (.ref x) (rxs.mono t2), (r1.new hdx).lay n2 (.mkI upd_same .nil), q1 x (r1.fresh hx), fun v H' y h' t3 r3 ry q3 => ?_, fun _ _ _ _ _ _ _ _ q => q.elim⟩
    obtain ⟨rfl, q4⟩ := q3
    cases ry
    exact ⟨rfl, out _ H' (.ref x) h' (t1.trans (t2.trans t3)) r3 (.ref x) q4⟩⟩
end

/-! ### fields -/
def lFld (c : Cn) (f : Fd) (lo : LTE) : LTE := fun s h E L => lo s h E fun x h1 => match x with
  | .ref a => (match h1 a with
    | some (.ins c' fs) => c' = c ∧ (match fget fs f with
      | some v => L v h1
      | none => False)
    | _ => False)
  | _ => False
section
variable {X : Cx} {W : WX} {o e : Expr} {lo la le : LTE} {pos pos' : Pos} {c : Cn} {m : Str}
theorem le_fld (f : Fd) (ho : LE X W o lo) (cl : Cls X.K (c.ad X.K)) (na : NoAttr X.K (c.ad X.K) m) (hm : f.nm = m := by rfl) (hb : attributeBase o m X.env (eval o X.env) = eval o X.env := by rfl) : LE X W (.Attribute o m pos) (lFld c f lo) :=
  peW (pe_fld ho hb) fun σ H Q ⟨s, h, E, L, z, hl, out⟩ => ⟨s, h, E, _, z, hl, fun v H1 x h1 t1 r1 rx q1 => by
    cases rx with
    | ref a =>
      have q2 : (match h1 a with
        | some (.ins c' fs) => c' = c ∧ (match fget fs f with
          | some v => L v h1
          | none => False)
        | _ => False) := q1
      split at q2
      · rename_i c' fs ea
        obtain ⟨rfl, q3⟩ := q2
        obtain ⟨dx, ws, e1, hr⟩ := r1 a _ ea
        split at q3
        · rename_i y ey
          obtain ⟨w, e2, rw'⟩ := hr.fget ey
          rw [hm] at e2
          exact ⟨a, _, dx, ws, w, rfl, e1, cl, na, e2, out w H1 y h1 t1 r1 rw' q3⟩
        · exact q3.elim
      · exact q2.elim
    | _ => exact q1.elim⟩
end
end VL

set_option Elab.async false
set_option linter.all false
set_option maxRecDepth 100000
set_option maxHeartbeats 2000000
namespace VL
open PySem PySem.Spec PyProof.Rows L2
abbrev SX := Cn → List (Fd × LV) → LS → LH → Prop
def OutSX (K : PySem.W.Frag) (W : WX) (H : Hp) (E : SX) : Prop := ∀ c fs d σ' H' s' h', TLe K H H' → RS K H' s' σ' → RH K H' h' → RX K H' fs d → E c fs s' h' → W (.ref (Cn.ad K c)) d σ' H'
theorem OutSX.step {K : PySem.W.Frag} {W : WX} {H H1 : Hp} {E : SX} (o : OutSX K W H E) (t : TLe K H H1) : OutSX K W H1 E := fun c fs d σ' H' s' h' t2 => o c fs d σ' H' s' h' (t.trans t2)
/-- what is wanted behind a statement -/
def OutN (K : PySem.W.Frag) (H : Hp) (Q : L2.St → Hp → Prop) (L : LS → LH → Prop) : Prop := ∀ σ' H' s' h', TLe K H H' → RS K H' s' σ' → RH K H' h' → L s' h' → Q σ' H'
theorem OutN.step {K : PySem.W.Frag} {H H1 : Hp} {Q : L2.St → Hp → Prop} {L : LS → LH → Prop} (o : OutN K H Q L) (t : TLe K H H1) : OutN K H1 Q L := fun σ' H' s' h' t2 => o σ' H' s' h' (t.trans t2)
structure OutD (K : PySem.W.Frag) (W : WX) (H : Hp) (D : Ends) (LD : LEnds) : Prop where
  nx : OutN K H D.nx LD.nx
  rt : OutV K H D.rt LD.rt
  ex : OutSX K W H LD.ex
  bk : OutN K H D.bk LD.bk
  ct : OutN K H D.ct LD.ct
theorem OutD.step {K : PySem.W.Frag} {W : WX} {H H1 : Hp} {D : Ends} {LD : LEnds} (o : OutD K W H D LD) (t : TLe K H H1) : OutD K W H1 D LD := ⟨o.nx.step t, o.rt.step t, o.ex.step t, o.bk.step t, o.ct.step t⟩
def upS (K : PySem.W.Frag) (W : WX) (l : LTS) : TS := fun D σ H => ∃ s h LD, RS K H s σ ∧ RH K H h ∧ l LD s h ∧ OutD K W H D LD
theorem sit_of {K : PySem.W.Frag} {W : WX} {σ : L2.St} {H : Hp} {s : LS} {h : LH} {E : SX} (rs : RS K H s σ) (rh : RH K H h) (o : OutSX K W H E) : Sit K W σ H s h fun c fs h' => E c fs s h' :=
  ⟨rs, rh, fun c fs d H' h' t r rd q => o c fs d σ H' s h' t (rs.mono t) r rd q⟩
abbrev LSt (X : Cx) (W : WX) (st : Stmt) (l : LTS) : Prop := PS X st (upS X.K W l)
abbrev LSs (X : Cx) (W : WX) (st : List Stmt) (l : LTS) : Prop := PSs X st (upS X.K W l)
/-! ### blocks -/
def lNx : LTS := fun D s h => D.nx s h
def lSeq (t u : LTS) : LTS := fun D s h => t { D with nx := fun s' h' => u D s' h' } s h
def lNev : LTS := fun _ _ _ => False
def lBrk : LTS := fun D s h => D.bk s h
def lCnt : LTS := fun D s h => D.ct s h
section
variable {X : Cx} {W : WX} {st : Stmt} {rest : List Stmt} {lt lu : LTS} {e o : Expr} {le lo la lb : LTE} {lc : LTT} {pos : Pos}
theorem lss_nil : LSs X W [] lNx := pssW pss_nil fun D σ H ⟨s, h, LD, rs, rh, hl, out⟩ => out.nx σ H s h (.refl H) rs rh hl
theorem lss_cons (h1 : LSt X W st lt) (h2 : LSs X W rest lu) : LSs X W (st :: rest) (lSeq lt lu) := pssW (pss_cons h1 h2) fun D σ H ⟨s, h, LD, rs, rh, hl, out⟩ =>
  ⟨s, h, { LD with nx := fun s' h' => lu LD s' h' }, rs, rh, hl, ⟨fun σ' H' s' h' t r1 r2 q => ⟨s', h', LD, r1, r2, q, out.step t⟩, out.rt, out.ex, out.bk, out.ct⟩⟩
theorem lss_one (h1 : LSt X W st lt) : LSs X W [st] lt := pss_one h1
theorem ls_pass : LSt X W (.Pass pos) lNx := psW ps_pass fun D σ H ⟨s, h, LD, rs, rh, hl, out⟩ => out.nx σ H s h (.refl H) rs rh hl
theorem ls_break : LSt X W (.Break pos) lBrk := psW ps_break fun D σ H ⟨s, h, LD, rs, rh, hl, out⟩ => out.bk σ H s h (.refl H) rs rh hl
theorem ls_continue : LSt X W (.Continue pos) lCnt := psW ps_continue fun D σ H ⟨s, h, LD, rs, rh, hl, out⟩ => out.ct σ H s h (.refl H) rs rh hl
theorem ls_doc {x j pos pos'} : LSt X W (.Expr (.Constant (.str x) j pos) pos') lNx := psW ps_doc fun D σ H ⟨s, h, LD, rs, rh, hl, out⟩ => out.nx σ H s h (.refl H) rs rh hl
theorem ls_never : LSt X W st lNev := psW ps_never fun D σ H ⟨s, h, LD, rs, rh, hl, out⟩ => hl
/-- an expression within a statement -/
def lE (l : LTE) (s : LS) (h : LH) (E : SX) (L : LK) : Prop := l s h (fun c fs h' => E c fs s h') L
def lDrop (l : LTE) : LTS := fun D s h => lE l s h D.ex fun _ h1 => D.nx s h1
theorem ls_expr (he : LE X W e le) (hs : swapsWith e none pos.line X.env = pure false := by rfl) : LSt X W (.Expr e pos) (lDrop le) := psW (ps_expr he hs) fun D σ H ⟨s, h, LD, rs, rh, hl, out⟩ =>
  ⟨s, h, _, _, sit_of rs rh out.ex, hl, fun v H1 x h1 t1 r1 rx q1 => out.nx σ H1 s h1 t1 (rs.mono t1) r1 q1⟩
def lRet (l : LTE) : LTS := fun D s h => lE l s h D.ex D.rt
theorem ls_ret (he : LE X W e le) : LSt X W (.Return (some e) pos) (lRet le) := psW (ps_ret he) fun D σ H ⟨s, h, LD, rs, rh, hl, out⟩ =>
  ⟨s, h, _, _, sit_of rs rh out.ex, hl, out.rt⟩
def lRetN : LTS := fun D _ h => D.rt .non h
theorem ls_retN : LSt X W (.Return none pos) lRetN := psW ps_retN fun D σ H ⟨s, h, LD, rs, rh, hl, out⟩ => out.rt .non H .non h (.refl H) rh .non hl
def lIfS (c : LTT) (t u : LTS) : LTS := fun D s h => c s h (fun c fs h' => D.ex c fs s h') fun b h1 => if b = true then t D s h1 else u D s h1
theorem ls_if {c : Expr} {a b : List Stmt} (hc : LT X W c lc) (ha : LSs X W a lt) (hb : LSs X W b lu) : LSt X W (.If c a b pos) (lIfS lc lt lu) := psW (ps_if hc ha hb) fun D σ H ⟨s, h, LD, rs, rh, hl, out⟩ =>
  ⟨s, h, _, _, sit_of rs rh out.ex, hl, fun k H1 h1 t1 r1 q1 => by
    cases k with
    | true => exact ⟨s, h1, LD, rs.mono t1, r1, q1, out.step t1⟩
    | false => exact ⟨s, h1, LD, rs.mono t1, r1, q1, out.step t1⟩⟩
/-! ### targets -/
abbrev LTG := LV → LS → LH → SX → (LS → LH → Prop) → Prop
abbrev LTGs := List LV → LS → LH → SX → (LS → LH → Prop) → Prop
def upG (K : PySem.W.Frag) (W : WX) (g : LTG) : TG := fun v σ H Q => ∃ x s h E L, RS K H s σ ∧ RH K H h ∧ OutSX K W H E ∧ RV K H x v ∧ g x s h E L ∧ OutN K H Q L
def upGs (K : PySem.W.Frag) (W : WX) (g : LTGs) : TGs := fun vs σ H Q => ∃ xs s h E L, RS K H s σ ∧ RH K H h ∧ OutSX K W H E ∧ RVs K H xs vs ∧ g xs s h E L ∧ OutN K H Q L
abbrev LG (X : Cx) (W : WX) (e : Expr) (g : LTG) : Prop := PG X e (upG X.K W g)
abbrev LGs (X : Cx) (W : WX) (e : List Expr) (g : LTGs) : Prop := PGs X e (upGs X.K W g)
theorem pgW {t t' : TG} (h : PG X e t) (i : ∀ v σ H Q, t' v σ H Q → t v σ H Q) : PG X e t' := ⟨fun pins s σ H v u Q I r q => h.run pins s σ H v u Q I r (i _ _ _ _ q)⟩
theorem pgsW {es : List Expr} {t t' : TGs} (h : PGs X es t) (i : ∀ v σ H Q, t' v σ H Q → t v σ H Q) : PGs X es t' := ⟨fun pins s σ H v u Q I r q => h.run pins s σ H v u Q I r (i _ _ _ _ q)⟩
def lgName (i : Nat) : LTG := fun x s h _ L => L (s.set i (some x)) h
theorem lg_name {x : Str} (i : Nat) (hN : X.N.Nodup) (hi : X.N[i]? = some x := by rfl) (hx : Loc X.env.scope x := by first | exact Or.inl rfl | exact Or.inr rfl) (hf : X.fn x = true ∨ X.env.scope.names.lookup x = some .local := by first | exact .inl rfl | exact .inr rfl | assumption) : LG X W (.Name x pos) (lgName i) :=
  pgW (pg_name hN hi hx hf) fun v σ H Q ⟨x, s, h, E, L, rs, rh, oe, rx, hl, out⟩ => out _ H _ h (.refl H) (rs.set rx i) rh hl
def lgNil : LTGs := fun xs s h _ L => xs = [] ∧ L s h
def lgCons (g : LTG) (gs : LTGs) : LTGs := fun xs s h E L => match xs with
  | x :: r => g x s h E fun s' h' => gs r s' h' E L
  | [] => False
theorem lgs_nil : LGs X W [] lgNil := pgsW pgs_nil fun v σ H Q ⟨xs, s, h, E, L, rs, rh, oe, rx, hl, out⟩ => by
  obtain ⟨rfl, q⟩ := hl
  cases rx
  exact ⟨rfl, out σ H s h (.refl H) rs rh q⟩
theorem lgs_cons {es : List Expr} {g : LTG} {gs : LTGs} (h1 : LG X W e g) (h2 : LGs X W es gs) (hs : (assignEach (e :: es) X.env).map (·.2) = assign e X.env :: (assignEach es X.env).map (·.2) := by rfl) : LGs X W (e :: es) (lgCons g gs) :=
  pgsW (pgs_cons h1 h2 hs) fun v σ H Q ⟨xs, s, h, E, L, rs, rh, oe, rx, hl, out⟩ => by
    cases rx with
    | nil => exact hl.elim
    | cons r rr => exact ⟨_, _, rfl, _, s, h, E, _, rs, rh, oe, r, hl, fun σ' H' s' h' t r1 r2 q => ⟨_, s', h', E, L, r1, r2, oe.step t, rr.mono t, q, out.step t⟩⟩
theorem pg_or {e : Expr} {t t' : TG} (h : PG X e t) (h' : PG X e t') : PG X e (fun v σ H Q => t v σ H Q ∨ t' v σ H Q) :=
  ⟨fun pins s σ H v u Q I r q => q.elim (fun q => h.run pins s σ H v u Q I r q) (fun q => h'.run pins s σ H v u Q I r q)⟩
/-- a, b, .. = a tuple or a list of that length -/
def lgTup (n : Nat) (gs : LTGs) : LTG := fun x s h E L => match seqOf h x with
  | some xs => xs.length = n ∧ gs xs s h E L
  | none => False
theorem lg_tup {es : List Expr} {k n : Nat} {gs : LTGs} (hc : X.calm = true) (h : LGs X W es gs) (hn : (assignEach es X.env).length = n := by rfl) (hst : (assignEach es X.env).findIdx? (·.1) = none := by rfl) : LG X W (.Tuple es k pos) (lgTup n gs) :=
  pgW (pg_or (pg_tup hc h hn hst) (pg_lst hc h hn hst)) fun v σ H Q ⟨x, s, h, E, L, rs, rh, oe, rx, hl, out⟩ => by
    unfold lgTup at hl
    split at hl
    · rename_i xs e
      obtain ⟨p, vs, rfl, hs, hr⟩ := seqOf_ok rh rx e
      rcases hs with hs | hs
      · exact .inr ⟨p, vs, rfl, hs, by rw [← hr.length]; exact hl.1, _, s, h, E, L, rs, rh, oe, hr, hl.2, out⟩
      · exact .inl ⟨p, vs, rfl, hs, by rw [← hr.length]; exact hl.1, _, s, h, E, L, rs, rh, oe, hr, hl.2, out⟩
    · exact hl.elim
/-- o[i] = x -/
def gSet : LV → LV → LV → LH → (LH → Prop) → Prop := fun o i x h L => match o with
  | .ref a => (match h a with
    | some (.lst xs) => (match i with
      | .int k => (match ixN xs.length k with
        | some j => L (up h a (.lst (xs.set j x)))
        | none => False)
      | _ => False)
    | some (.dic kvs) => (match keyOf i with
      | some k => kvs.length < 100000 ∧ L (up h a (.dic (dput kvs k x)))
      | none => False)
    | _ => False)
  | _ => False
def rSetD : V → V → V → Hp → (Hp → Prop) → Prop := fun o i v H Q => ∃ a H', o = .ref a ∧ DPut H a i v H' ∧ Q H'
theorem set_two (hu : X.A.units + 1 < cLine) : PSet X (fun o i v H Q => rSetL o i v H Q ∨ rSetD o i v H Q) := by
  intro pins s σ H o i v ov iv u Q I ro ri rv q
  rcases q with q | ⟨a, H', rfl, g, q⟩
  · exact set_list pins s σ H o i v ov iv u Q I ro ri rv q
  · cases ro
    exact d_setItem hu I g ri rv fun s' I' => ⟨H', I', q⟩
theorem set_ok {K : PySem.W.Frag} {H : Hp} {h : LH} {o i x : LV} {ov iv v : V} {L : LH → Prop} {Q : Hp → Prop} (rh : RH K H h) (ro : RV K H o ov) (ri : RV K H i iv) (rx : RV K H x v) (g : gSet o i x h L) (out : ∀ H' h', TLe K H H' → RH K H' h' → L h' → Q H') :
    rSetL ov iv v H Q ∨ rSetD ov iv v H Q := by
  unfold gSet at g
  split at g
  · rename_i a
    cases ro
    split at g
    · rename_i xs ea
      obtain ⟨vs, e1, hr⟩ := rh a _ ea
      split at g
      · rename_i k
        cases ri
        split at g
        · rename_i j ej
          exact .inl ⟨a, vs, k, j, rfl, rfl, e1, by rw [← hr.length]; exact ej, out _ _ (.lst e1) (rh.upd (.lst e1) (.mkL upd_same ((hr.set rx j).mono (.lst e1)))) g⟩
        · exact g.elim
      · exact g.elim
    · rename_i kvs ea
      obtain ⟨ws, e1, hr⟩ := rh a _ ea
      split at g
      · rename_i k ek
        have e2 := keyOf_ok ri ek
        subst e2
        exact .inr ⟨a, _, rfl, .k e1 (by rw [← hr.length]; exact szlt g.1), out _ _ (.dK e1) (rh.upd (.dK e1) (.mkD upd_same ((hr.dput rx).mono (.dK e1)))) g.2⟩
      · exact g.elim
    · exact g.elim
  · exact g.elim
def lgSub (lo li : LTE) : LTG := fun x s h E L => lE lo s h E fun o h1 => lE li s h1 E fun i h2 => gSet o i x h2 fun h3 => L s h3
theorem lg_sub {i : Expr} {li : LTE} (hu : X.A.units + 1 < cLine) (ho : LE X W o lo) (hi : LE X W i li) (ha : ∀ v, assign (.Subscript o i pos) X.env v = (do
      let ov ← holding [v] (eval o X.env)
      let iv ← holding [v, ov] (eval i X.env)
      standAt pos
      holding [v, ov, iv] (setItem ov iv v)
      release [v, ov, iv] []) := by intro _; rfl) : LG X W (.Subscript o i pos) (lgSub lo li) :=
  pgW (pg_sub ho hi (set_two hu) ha) fun v σ H Q ⟨x, s, h, E, L, rs, rh, oe, rx, hl, out⟩ =>
    ⟨s, h, _, _, sit_of rs rh oe, hl, fun ov H1 y h1 t1 r1 ry q1 => ⟨s, h1, _, _, (sit_of rs rh oe).step t1 r1, q1, fun iv H2 z h2 t2 r2 rz q2 =>
      set_ok r2 (ry.mono t2) rz ((rx.mono t1).mono t2) q2 fun H3 h3 t3 r3 q3 => out σ H3 s h3 ((t1.trans t2).trans t3) (rs.mono ((t1.trans t2).trans t3)) r3 q3⟩⟩
def lAsg (l : LTE) (g : LTG) : LTS := fun D s h => lE l s h D.ex fun x h1 => g x s h1 D.ex D.nx
theorem ls_asg {tg : Expr} {g : LTG} (he : LE X W e le) (hg : LG X W tg g) (hs : swapsWithSole [tg] e pos.line X.env = pure false := by rfl) (hw : swappedStores [tg] e X.env = pure none := by rfl)
    (h1 : (assignEach [tg] X.env).map (·.2) = [assign tg X.env] := by rfl) : LSt X W (.Assign [tg] e pos) (lAsg le g) := psW (ps_asg he hg hs hw h1) fun D σ H ⟨s, h, LD, rs, rh, hl, out⟩ =>
  ⟨s, h, _, _, sit_of rs rh out.ex, hl, fun v H1 x h1 t1 r1 rx q1 => ⟨x, s, h1, LD.ex, LD.nx, rs.mono t1, r1, out.ex.step t1, rx, q1, out.nx.step t1⟩⟩
theorem ls_set {x : Str} (i : Nat) {pos' : Pos} (hN : X.N.Nodup) (he : LE X W e le) (hi : X.N[i]? = some x := by rfl) (hx : Loc X.env.scope x := by first | exact Or.inl rfl | exact Or.inr rfl) (hs : swapsWith e (some (.Name x pos')) pos.line X.env = pure false := by rfl)
    (hf : X.fn x = true ∨ X.env.scope.names.lookup x = some .local := by first | exact .inl rfl | exact .inr rfl | assumption) : LSt X W (.Assign [.Name x pos'] e pos) (lAsg le (lgName i)) := psW (ps_set hN hi hx he hs hf) fun D σ H ⟨s, h, LD, rs, rh, hl, out⟩ =>
  ⟨s, h, _, _, sit_of rs rh out.ex, hl, fun v H1 x h1 t1 r1 rx q1 => out.nx _ H1 _ h1 t1 ((rs.mono t1).set rx i) r1 q1⟩
/-- a, b = x, y -/
def lPar (i j : Nat) (la : LTA) : LTS := fun D s h => la s h (fun c fs h' => D.ex c fs s h') fun xs h1 => match xs with
  | [x, y] => D.nx ((s.set i (some x)).set j (some y)) h1
  | _ => False
theorem ls_par {x y : Str} {a b : Expr} {lr : LTA} {px py pt : Pos} {kt k2 pt2} (i j : Nat) (hc : X.calm = true) (hN : X.N.Nodup) (ha : LA X W [a, b] lr) (hi : X.N[i]? = some x := by rfl) (hj : X.N[j]? = some y := by rfl) (hij : i ≠ j := by decide)
    (hx : X.env.scope.names.lookup x = some .local := by rfl) (hy : X.env.scope.names.lookup y = some .local := by rfl)
    (hw : swappedStores [.Tuple [.Name x px, .Name y py] kt pt] (.Tuple [a, b] k2 pt2) X.env = pure (some [x, y]) := by rfl)
    (hs : swapsWithSole [.Tuple [.Name x px, .Name y py] kt pt] (.Tuple [a, b] k2 pt2) pos.line X.env = pure false := by rfl) :
    LSt X W (.Assign [.Tuple [.Name x px, .Name y py] kt pt] (.Tuple [a, b] k2 pt2) pos) (lPar i j lr) := psW (ps_par hc hN hi hj hij hx hy ha hw hs) fun D σ H ⟨s, h, LD, rs, rh, hl, out⟩ =>
  ⟨s, h, _, _, sit_of rs rh out.ex, hl, fun vs H1 xs h1 t1 r1 rxs q1 => by
    split at q1
    · cases rxs with
      | cons r t =>
        cases t with
        | cons r' t =>
          cases t
          exact ⟨_, _, rfl, out.nx _ H1 _ h1 t1 (((rs.mono t1).set r i).set r' j) r1 q1⟩
    · exact q1.elim⟩
/-! ### fields -/
def lFldS (c : Cn) (f : Fd) (lo lv : LTE) : LTS := fun D s h => lE lv s h D.ex fun x h1 => lE lo s h1 D.ex fun o h2 => match o with
  | .ref a => (match h2 a with
    | some (.ins c' fs) => c' = c ∧ fs.length < 100 ∧ D.nx s (up h2 a (.ins c (fput f x fs)))
    | _ => False)
  | _ => False
theorem ls_fld {value : Expr} {lv : LTE} {c : Cn} {m : Str} {pos' : Pos} (f : Fd) (ho : LE X W o lo) (hv : LE X W value lv) (cl : Cls X.K (c.ad X.K)) (na : NoAttr X.K (c.ad X.K) m) (hm : f.nm = m := by rfl)
    (hs : swapsWith value (some (.Attribute o m pos')) pos.line X.env = pure false := by rfl) : LSt X W (.Assign [.Attribute o m pos'] value pos) (lFldS c f lo lv) := psW (ps_fld ho hv hs) fun D σ H ⟨s, h, LD, rs, rh, hl, out⟩ =>
  ⟨s, h, _, _, sit_of rs rh out.ex, hl, fun v H1 x h1 t1 r1 rx q1 => ⟨s, h1, _, _, (sit_of rs rh out.ex).step t1 r1, q1, fun ov H2 y h2 t2 r2 ry q2 => by
    cases ry with
    | ref a =>
      have q3 : (match h2 a with
        | some (.ins c' fs) => c' = c ∧ fs.length < 100 ∧ LD.nx s (up h2 a (.ins c (fput f x fs)))
        | _ => False) := q2
      split at q3
      · rename_i c' fs ea
        obtain ⟨rfl, hz, q4⟩ := q3
        obtain ⟨dx, ws, e1, hr⟩ := r2 a _ ea
        subst hm
        refine ⟨a, _, dx, ws, rfl, e1, cl, na, by rw [← hr.length]; omega, out.nx σ _ s _ ((t1.trans t2).trans (.ins e1)) (rs.mono ((t1.trans t2).trans (.ins e1))) (r2.upd (.ins e1) (.mkI upd_same ((hr.fput (rx.mono t2)).mono (.ins e1)))) q4⟩
      · exact q3.elim
    | _ => exact q2.elim⟩⟩
/-- o.f += e, whole numbers -/
def lFldAdd (c : Cn) (f : Fd) (lo lv : LTE) : LTS := fun D s h => lE lo s h D.ex fun o h1 => match o with
  | .ref a => (match h1 a with
    | some (.ins c' fs) => c' = c ∧ (match fget fs f with
      | some (.int i) => lE lv s h1 D.ex fun y h2 => (match y with
        | .int j => (match h2 a with
          | some (.ins c'' fs') => c'' = c ∧ fs'.length < 100 ∧ D.nx s (up h2 a (.ins c (fput f (.int (i + j)) fs')))
          | _ => False)
        | _ => False)
      | _ => False)
    | _ => False)
  | _ => False
theorem ls_fldadd {value : Expr} {lv : LTE} {c : Cn} {m : Str} {pos' : Pos} (f : Fd) (ho : LE X W o lo) (hv : LE X W value lv) (cl : Cls X.K (c.ad X.K)) (na : NoAttr X.K (c.ad X.K) m) (hm : f.nm = m := by rfl) :
    LSt X W (.AugAssign (.Attribute o m pos') .Add value pos) (lFldAdd c f lo lv) := psW (ps_fldaug ho hv in_add) fun D σ H ⟨s, h, LD, rs, rh, hl, out⟩ =>
  ⟨s, h, _, _, sit_of rs rh out.ex, hl, fun ov H1 o' h1 t1 r1 ro q1 => by
    cases ro with
    | ref a =>
      dsimp only at q1
      split at q1
      · rename_i c' fs ea
        obtain ⟨rfl, q2⟩ := q1
        obtain ⟨dx, ws, e1, hr⟩ := r1 a _ ea
        split at q2
        · rename_i i ei
          obtain ⟨w, e2, rw'⟩ := hr.fget ei
          cases rw'
          rw [hm] at e2
          refine ⟨a, _, dx, ws, _, rfl, e1, cl, na, e2, s, h1, _, _, (sit_of rs rh out.ex).step t1 r1, q2, fun v H2 y h2 t2 r2 ry q3 => ?_⟩
          split at q3
          · rename_i j
            cases ry
            split at q3
            · rename_i c'' fs' eb
              obtain ⟨rfl, hz, q4⟩ := q3
              obtain ⟨dx', ws', e3, hr'⟩ := r2 a _ eb
              subst hm
              exact ⟨i, j, rfl, rfl, dx', ws', e3, by rw [← hr'.length]; omega, out.nx σ _ s _ ((t1.trans t2).trans (.ins e3)) (rs.mono ((t1.trans t2).trans (.ins e3))) (r2.upd (.ins e3) (.mkI upd_same ((hr'.fput (.int _)).mono (.ins e3)))) q4⟩
            · exact q3.elim
          · exact q3.elim
        · exact q2.elim
      · exact q1.elim
    | _ => exact q1.elim⟩
/-! ### loops -/
/-- what is walked: at a turn and a heap stuck, ended, or an item -/
abbrev LIt := Nat → LH → Option (Option LV)
abbrev LTI := LS → LH → LX → (LIt → LH → Prop) → Prop
def RIt (K : PySem.W.Frag) (H0 : Hp) (J : It) (it : LIt) : Prop := ∀ i H h, TLe K H0 H → RH K H h → match it i h with
  | none => True
  | some none => J.stop i H
  | some (some x) => J.go i H ∧ ∀ v H', J.yld i H v H' → TLe K H H' ∧ RH K H' h ∧ RV K H' x v
def upI (K : PySem.W.Frag) (W : WX) (li : LTI) : TI := fun σ H R => ∃ s h E L, Sit K W σ H s h E ∧ li s h E L ∧ ∀ J H' it h', TLe K H H' → RH K H' h' → RIt K H' J it → L it h' → R J H'
abbrev LI (X : Cx) (W : WX) (tg iter : Expr) (li : LTI) : Prop := PI X tg iter (upI X.K W li)
theorem piW {tg iter : Expr} {t t' : TI} (h : PI X tg iter t) (i : ∀ σ H R, t' σ H R → t σ H R) : PI X tg iter t' := ⟨fun pins s σ H R I q => h.run pins s σ H R I (i _ _ _ q)⟩
def lFor (li : LTI) (g : LTG) (lb : LTS) : LTS := fun D s h => li s h (fun c fs h' => D.ex c fs s h') fun it h1 => ∃ (n : Nat) (P : Nat → LS → LH → Prop), P 0 s h1 ∧ ∀ i s h, P i s h → match it i h with
  | none => False
  | some none => D.nx s h
  | some (some x) => i < n ∧ g x s h D.ex fun s' h' => lb { D with nx := P (i + 1), ct := P (i + 1), bk := D.nx } s' h'
theorem ls_for {tg iter : Expr} {body : List Stmt} {li : LTI} {g : LTG} {lb : LTS} (hp : PassesOwn (model X.prog X.w) X.A X.env X.xe) (hc : X.calm = true) (hi : LI X W tg iter li) (hg : LG X W tg g) (hb : LSs X W body lb)
    (hs : ∀ x, foldedSetIterable iter X.env x = pure x := by intro _; rfl) : LSt X W (.For tg iter body [] pos) (lFor li g lb) := psW (ps_for hp hc hi hg hb hs) fun D σ H ⟨s, h, LD, rs, rh, hl, out⟩ =>
  ⟨s, h, _, _, sit_of rs rh out.ex, hl, fun J H1 it h1 t1 r1 rit q1 => by
    obtain ⟨n, P, p0, step⟩ := q1
    refine ⟨fun i m σ' H' => ∃ s' h', TLe X.K H1 H' ∧ RS X.K H' s' σ' ∧ RH X.K H' h' ∧ P i s' h' ∧ m = n - i, ⟨n, s, h1, .refl H1, rs.mono t1, r1, p0, by omega⟩, ?_⟩
    rintro i m σ' H' ⟨s', h', t2, rs', r2, p, rfl⟩
    have q := step i s' h' p
    have z := rit i H' h' t2 r2
    split at q
    · exact q.elim
    · rename_i e
      rw [e] at z
      exact .inl ⟨z, out.nx σ' H' s' h' (t1.trans t2) rs' r2 q⟩
    · rename_i x e
      rw [e] at z
      obtain ⟨hn, q2⟩ := q
      refine .inr ⟨z.1, fun σ2 H2 => ∃ s2 h2, TLe X.K H1 H2 ∧ RS X.K H2 s2 σ2 ∧ RH X.K H2 h2 ∧ P (i + 1) s2 h2, fun σ2 H2 ⟨s2, h2, a, b, c, d⟩ => ⟨n - (i + 1), by omega, s2, h2, a, b, c, d, rfl⟩, fun v H3 y => ?_⟩
      obtain ⟨t3, r3, rv⟩ := z.2 v H3 y
      refine ⟨x, s', h', LD.ex, _, rs'.mono t3, r3, out.ex.step ((t1.trans t2).trans t3), rv, q2, fun σ4 H4 s4 h4 t4 rs4 r4 q4 => ?_⟩
      have tt : TLe X.K H1 H4 := (t2.trans t3).trans t4
      exact ⟨s4, h4, _, rs4, r4, q4, ⟨fun σ5 H5 s5 h5 t5 rs5 r5 q5 => ⟨s5, h5, tt.trans t5, rs5, r5, q5⟩, out.rt.step (t1.trans tt), out.ex.step (t1.trans tt), out.nx.step (t1.trans tt), fun σ5 H5 s5 h5 t5 rs5 r5 q5 => ⟨s5, h5, tt.trans t5, rs5, r5, q5⟩⟩⟩⟩
/-! ### what is walked -/
def itSt (xs : List LV) : LIt := fun i _ => some xs[i]?
def itL (a : Addr) : LIt := fun i h => match h a with
  | some (.lst xs) => some xs[i]?
  | _ => none
/-- a list, a tuple, a text -/
def liSeq (l : LTE) : LTI := fun s h E L => l s h E fun x h1 => match x with
  | .tup xs => L (itSt xs) h1
  | .rl xs => L (itSt xs) h1
  | .str z => L (itSt (z.cps.toList.map fun c => .str ⟨#[c]⟩)) h1
  | .ref a => (match h1 a with
    | some (.lst _) => L (itL a) h1
    | _ => False)
  | _ => False
def iSeq (K : PySem.W.Frag) (tl : TE) : TI := fun σ H R => tl σ H fun x H1 => (∃ a, x = .ref a ∧ (∃ xs, SqL K H1 a xs) ∧ R (Itl K a) H1) ∨ (∃ a, x = .ref a ∧ (∃ xs, SqT K H1 a xs) ∧ R (Itt K a) H1) ∨ ∃ z, x = .str z ∧ R (Its z) H1
theorem pi_seq {tg l : Expr} {tl : TE} (hl : PE X l tl) : PI X tg l (iSeq X.K tl) := by
  refine ⟨fun pins s σ H R I h => ?_⟩
  refine thn (hl.run pins s σ H _ I h) fun v s1 ⟨x, H1, I1, r1, q1⟩ => ?_
  rcases q1 with ⟨a, rfl, ⟨xs, hq⟩, q⟩ | ⟨a, rfl, ⟨xs, hq⟩, q⟩ | ⟨z, rfl, q⟩
  · cases r1
    obtain ⟨its, rv, p, hz⟩ := I1.list hq
    refine wpAny_pyIter_list p.isList ?_
    refine ⟨s1.heap.objs.size, [s1.heap.objs.size], _, _, H1, rfl, I1.kept (t' := s1.toks) fun b o e => Heap.get?_push_of_some _ e, turn_list a _, ⟨_, Heap.get?_push_size _ rfl, rfl, rfl⟩, fun b hb => ?_, q⟩
    have e : b = s1.heap.objs.size := by simpa using hb
    subst e
    exact I1.fpOk (Nat.le_refl _) (I1.hok.fresh (Nat.le_refl _))
  · cases r1
    obtain ⟨its, rv, p, hz⟩ := I1.tuple hq
    refine wpAny_pyIter_tuple (show s1.heap.IsTuple a its.toArray from p) ?_
    refine ⟨s1.heap.objs.size, [s1.heap.objs.size], _, _, H1, rfl, I1.kept (t' := s1.toks) fun b o e => Heap.get?_push_of_some _ e, turn_tuple a _, ⟨_, Heap.get?_push_size _ rfl, rfl, rfl⟩, fun b hb => ?_, q⟩
    have e : b = s1.heap.objs.size := by simpa using hb
    subst e
    exact I1.fpOk (Nat.le_refl _) (I1.hok.fresh (Nat.le_refl _))
  · obtain ⟨t, rfl⟩ := r1
    cases ha : z.cps.all (· < 128)
    · exact wpAny_pyIter_wide ha (pi_one (tk := s1.toks) I1 _ (turn_str _ z t "str_iterator" (.inr rfl)) ⟨_, Heap.get?_push_size _ rfl, rfl, rfl⟩ q)
    · exact wpAny_pyIter_ascii ha (pi_one (tk := s1.toks) I1 _ (turn_str _ z t "str_ascii_iterator" (.inl rfl)) ⟨_, Heap.get?_push_size _ rfl, rfl, rfl⟩ q)
theorem li_seq {tg e : Expr} {le : LTE} (he : LE X W e le) : LI X W tg e (liSeq le) := piW (pi_seq he) fun σ H R ⟨s, h, E, L, z, hl, out⟩ => ⟨s, h, E, _, z, hl, fun v H1 x h1 t1 r1 rx q1 => by
  cases rx with
  | tup ht hr =>
    rename_i a xs vs
    refine .inr (.inl ⟨a, rfl, ⟨_, ht⟩, out (Itt X.K a) H1 (itSt xs) h1 t1 r1 (fun i H2 h2 t2 r2 => ?_) q1⟩)
    have ht2 := t2.t _ _ ht
    have hr2 := hr.mono t2
    unfold itSt
    cases e : xs[i]? with
    | none => exact ⟨vs, ht2, by rw [← hr.length]; exact List.getElem?_eq_none_iff.mp e⟩
    | some x =>
      obtain ⟨w, hw, rw'⟩ := hr2.get e
      refine ⟨⟨vs, w, ht2, hw⟩, fun y H3 ⟨e3, hy⟩ => ?_⟩
      subst e3
      have e4 := hy vs ht2
      rw [hw] at e4
      cases e4
      exact ⟨.refl _, r2, rw'⟩
  | rl ht hr =>
    rename_i a xs vs
    refine .inl ⟨a, rfl, ⟨_, ht.sq⟩, out (Itl X.K a) H1 (itSt xs) h1 t1 r1 (fun i H2 h2 t2 r2 => ?_) q1⟩
    have ht2 := (t2.l _ _ ht).sq
    have hr2 := hr.mono t2
    unfold itSt
    cases e : xs[i]? with
    | none => exact ⟨vs, ht2, by rw [← hr.length]; exact List.getElem?_eq_none_iff.mp e⟩
    | some x =>
      obtain ⟨w, hw, rw'⟩ := hr2.get e
      refine ⟨⟨vs, w, ht2, hw⟩, fun y H3 ⟨e3, hy⟩ => ?_⟩
      subst e3
      have e4 := hy vs ht2
      rw [hw] at e4
      cases e4
      exact ⟨.refl _, r2, rw'⟩
  | str z =>
    refine .inr (.inr ⟨z, rfl, out (Its z) H1 _ h1 t1 r1 (fun i H2 h2 t2 r2 => ?_) q1⟩)
    unfold itSt
    rw [List.getElem?_map]
    cases e : z.cps.toList[i]? with
    | none =>
      show z.cps.size ≤ i
      have h5 := List.getElem?_eq_none_iff.mp e
      rw [Array.length_toList] at h5
      exact h5
    | some c =>
      have hi : i < z.cps.size := by
        have h5 := (List.getElem?_eq_some_iff.mp e).1
        rw [Array.length_toList] at h5
        exact h5
      refine ⟨hi, fun y H3 ⟨e3, c', hc, ey⟩ => ?_⟩
      subst e3 ey
      have hc2 : z.cps.toList[i]? = some c' := by rw [Array.getElem?_toList]; exact hc
      rw [e] at hc2
      cases hc2
      exact ⟨.refl _, r2, .str _⟩
  | ref a =>
    have q2 : (match h1 a with
      | some (.lst _) => L (itL a) h1
      | _ => False) := q1
    split at q2
    · rename_i xs ea
      obtain ⟨vs, e1, hr⟩ := r1 a _ ea
      refine .inl ⟨a, rfl, ⟨_, .of e1⟩, out (Itl X.K a) H1 (itL a) h1 t1 r1 (fun i H2 h2 t2 r2 => ?_) q2⟩
      unfold itL
      cases eb : h2 a with
      | none => trivial
      | some o =>
        cases o with
        | lst ys =>
          obtain ⟨ws, e2, hr2⟩ := r2 a _ eb
          dsimp only
          cases e : ys[i]? with
          | none => exact ⟨ws, .of e2, by rw [← hr2.length]; exact List.getElem?_eq_none_iff.mp e⟩
          | some x =>
            obtain ⟨w, hw, rw'⟩ := hr2.get e
            refine ⟨⟨ws, w, .of e2, hw⟩, fun y H3 ⟨e3, hy⟩ => ?_⟩
            subst e3
            have e4 := hy ws (.of e2)
            rw [hw] at e4
            cases e4
            exact ⟨.refl _, r2, rw'⟩
        | _ => trivial
    · exact q2.elim
  | _ => exact q1.elim⟩
/-- range -/
def itR (lo : Int) (n : Nat) : LIt := fun i _ => if i < n then some (some (.int (lo + i))) else some none
theorem rit_range {K : PySem.W.Frag} {H0 : Hp} {lo : Int} {n : Nat} : RIt K H0 (Itr lo n) (itR lo n) := fun i H h t r => by
  unfold itR
  by_cases hi : i < n
  · rw [if_pos hi]
    exact ⟨hi, fun v H' ⟨e1, e2⟩ => by subst e1 e2; exact ⟨.refl _, r, .int _⟩⟩
  · rw [if_neg hi]
    exact Nat.le_of_not_lt hi
def liRng1 (la : LTA) : LTI := fun s h E L => la s h E fun xs h1 => match xs with
  | [.int j] => -1000000 ≤ j ∧ j ≤ 1000000 ∧ L (itR 0 j.toNat) h1
  | _ => False
def liRng2 (la : LTA) : LTI := fun s h E L => la s h E fun xs h1 => match xs with
  | [.int i, .int j] => (-1000000 ≤ i ∧ i ≤ 1000000 ∧ -1000000 ≤ j ∧ j ≤ 1000000) ∧ L (itR i (j - i).toNat) h1
  | _ => False
theorem li_range1 {tg a : Expr} {lr : LTA} {p pos : Pos} (hm : X.mg "range" = none) (ha : LA X W [a] lr) (hg : Gl X "range" := by rfl) (hs : starEach [a] X.env = [(false, eval a X.env)] := by rfl) : LI X W tg (.Call (.Name "range" p) [a] [] pos) (liRng1 lr) :=
  piW (pi_range1 hg hm ha hs) fun σ H R ⟨s, h, E, L, z, hl, out⟩ => ⟨s, h, E, _, z, hl, fun v H1 x h1 t1 r1 rx q1 => by
    split at q1
    · cases rx with
      | cons r t =>
        cases t
        cases r
        exact ⟨_, rfl, by omega, by omega, out _ H1 _ h1 t1 r1 rit_range q1.2.2⟩
    · exact q1.elim⟩
theorem li_range2 {tg a b : Expr} {lr : LTA} {p pos : Pos} (hm : X.mg "range" = none) (ha : LA X W [a, b] lr) (hg : Gl X "range" := by rfl) (hs : starEach [a, b] X.env = [(false, eval a X.env), (false, eval b X.env)] := by rfl) (hs2 : starEach [b] X.env = [(false, eval b X.env)] := by rfl) :
    LI X W tg (.Call (.Name "range" p) [a, b] [] pos) (liRng2 lr) :=
  piW (pi_range2 hg hm ha hs hs2) fun σ H R ⟨s, h, E, L, z, hl, out⟩ => ⟨s, h, E, _, z, hl, fun v H1 x h1 t1 r1 rx q1 => by
    split at q1
    · cases rx with
      | cons r t =>
        cases t with
        | cons r2 t =>
          cases t
          cases r
          cases r2
          exact ⟨_, _, rfl, by omega, out _ H1 _ h1 t1 r1 rit_range q1.2⟩
    · exact q1.elim⟩
/-- reversed(range(n)) -/
def itC (lo c : Int) (n : Nat) : LIt := fun i _ => if i < n then some (some (.int (lo + (i : Nat) * c))) else some none
theorem rit_rangeC {K : PySem.W.Frag} {H0 : Hp} {lo c : Int} {n : Nat} : RIt K H0 (Itc lo c n) (itC lo c n) := fun i H h t r => by
  unfold itC
  by_cases hi : i < n
  · rw [if_pos hi]
    exact ⟨hi, fun v H' ⟨e1, e2⟩ => by subst e1 e2; exact ⟨.refl _, r, .int _⟩⟩
  · rw [if_neg hi]
    exact Nat.le_of_not_lt hi
def liRevRng1 (l : LTE) : LTI := fun s h E L => l s h E fun x h1 => match x with
  | .int j => 0 ≤ j ∧ j ≤ 1000000 ∧ L (itC (j - 1) (-1) j.toNat) h1
  | _ => False
theorem li_revRng1 {tg a : Expr} {lo : LTE} {p p2 pos pos2 : Pos} (hm : X.mg "reversed" = none) (hm2 : X.mg "range" = none) (ha : LE X W a lo) (hg : Gl X "reversed" := by rfl) (hg2 : Gl X "range" := by rfl)
    (na : starEach [a] X.env = (false, eval a X.env) :: starEach [] X.env := by rfl) (hs : starEach [.Call (.Name "range" p2) [a] [] pos2] X.env = (false, eval (.Call (.Name "range" p2) [a] [] pos2) X.env) :: starEach [] X.env := by rfl) :
    LI X W tg (.Call (.Name "reversed" p) [.Call (.Name "range" p2) [a] [] pos2] [] pos) (liRevRng1 lo) :=
  piW (pi_revR hg hm (prg_1 hg2 hm2 ha na) hs) fun σ H R ⟨s, h, E, L, z, hl, out⟩ => ⟨s, h, E, _, z, hl, fun v H1 x h1 t1 r1 rx q1 => by
    cases rx with
    | int j =>
      obtain ⟨q0, q2, q3⟩ := q1
      refine ⟨j, rfl, by omega, by omega, by omega, by omega, ?_⟩
      have e1 : ((j - 0).toNat) = j.toNat := by omega
      have e2 : (0 : Int) + (((j - 0).toNat : Nat) : Int) - 1 = j - 1 := by omega
      rw [e2, e1]
      exact out _ H1 _ h1 t1 r1 rit_rangeC q3
    | _ => exact q1.elim⟩
/-- reversed(list), reversed(tuple) -/
def itRevS (xs : List LV) : LIt := fun i _ => some xs.reverse[i]?
def itRevL (a : Addr) (n : Nat) : LIt := fun i h => match h a with
  | some (.lst xs) => if xs.length = n then some xs.reverse[i]? else none
  | _ => none
def liRev (l : LTE) : LTI := fun s h E L => l s h E fun x h1 => match x with
  | .tup xs => L (itRevS xs) h1
  | .rl xs => L (itRevS xs) h1
  | .ref a => (match h1 a with
    | some (.lst xs) => L (itRevL a xs.length) h1
    | _ => False)
  | _ => False
theorem rev_get {α : Type} {xs : List α} {i : Nat} (hi : i < xs.length) : xs.reverse[i]? = xs[xs.length - 1 - i]? := List.getElem?_reverse hi
theorem li_rev {tg a : Expr} {lo : LTE} {p pos : Pos} (hm : X.mg "reversed" = none) (ha : LE X W a lo) (hg : Gl X "reversed" := by rfl) (hs : starEach [a] X.env = (false, eval a X.env) :: starEach [] X.env := by rfl) :
    LI X W tg (.Call (.Name "reversed" p) [a] [] pos) (liRev lo) := piW (RT.pi_revA hg hm ha hs) fun σ H R ⟨s, h, E, L, z, hl, out⟩ => ⟨s, h, E, _, z, hl, fun v H1 x h1 t1 r1 rx q1 => by
  cases rx with
  | tup ht hr =>
    rename_i a xs vs
    refine ⟨a, vs, rfl, .inr ⟨ht, out _ H1 (itRevS xs) h1 t1 r1 (fun i H2 h2 t2 r2 => ?_) q1⟩⟩
    have ht2 := t2.t _ _ ht
    have hr2 := hr.mono t2
    unfold itRevS
    by_cases hi : i < xs.length
    · have hg : xs.reverse[i]? = some (xs[xs.length - 1 - i]'(by omega)) := by rw [rev_get hi, List.getElem?_eq_getElem]
      rw [hg]
      obtain ⟨w, hw, rw'⟩ := hr2.get (List.getElem?_eq_getElem (l := xs) (i := xs.length - 1 - i) (by omega))
      rw [hr.length] at hw
      refine ⟨⟨by rw [← hr.length]; exact hi, vs, w, ht2, hw⟩, fun y H3 ⟨e3, hy⟩ => ?_⟩
      subst e3
      have e4 := hy vs ht2
      rw [hw] at e4
      cases e4
      exact ⟨.refl _, r2, rw'⟩
    · have hg : xs.reverse[i]? = none := List.getElem?_eq_none_iff.mpr (by rw [List.length_reverse]; omega)
      rw [hg]
      show vs.length ≤ i
      rw [← hr.length]
      omega
  | rl ht hr =>
    rename_i a xs vs
    refine ⟨a, vs, rfl, .inl ⟨ht.sq, out _ H1 (itRevS xs) h1 t1 r1 (fun i H2 h2 t2 r2 => ?_) q1⟩⟩
    have ht2 := (t2.l _ _ ht).sq
    have hr2 := hr.mono t2
    unfold itRevS
    by_cases hi : i < xs.length
    · have hg : xs.reverse[i]? = some (xs[xs.length - 1 - i]'(by omega)) := by rw [rev_get hi, List.getElem?_eq_getElem]
      rw [hg]
      obtain ⟨w, hw, rw'⟩ := hr2.get (List.getElem?_eq_getElem (l := xs) (i := xs.length - 1 - i) (by omega))
      rw [hr.length] at hw
      refine ⟨⟨by rw [← hr.length]; exact hi, vs, w, ht2, hw⟩, fun y H3 ⟨e3, hy⟩ => ?_⟩
      subst e3
      have e4 := hy vs ht2
      rw [hw] at e4
      cases e4
      exact ⟨.refl _, r2, rw'⟩
    · have hg : xs.reverse[i]? = none := List.getElem?_eq_none_iff.mpr (by rw [List.length_reverse]; omega)
      rw [hg]
      show vs.length ≤ i
      rw [← hr.length]
      omega
  | ref a =>
    have q2 : (match h1 a with
      | some (.lst xs) => L (itRevL a xs.length) h1
      | _ => False) := q1
    split at q2
    · rename_i xs ea
      obtain ⟨vs, e1, hr⟩ := r1 a _ ea
      refine ⟨a, vs, rfl, .inl ⟨.of e1, out _ H1 (itRevL a xs.length) h1 t1 r1 (fun i H2 h2 t2 r2 => ?_) q2⟩⟩
      unfold itRevL
      cases eb : h2 a with
      | none => trivial
      | some o =>
        cases o with
        | lst ys =>
          obtain ⟨ws, e2, hr2⟩ := r2 a _ eb
          dsimp only
          by_cases hl : ys.length = xs.length
          · rw [if_pos hl]
            by_cases hi : i < ys.length
            · have hg : ys.reverse[i]? = some (ys[ys.length - 1 - i]'(by omega)) := by rw [rev_get hi, List.getElem?_eq_getElem]
              rw [hg]
              obtain ⟨w, hw, rw'⟩ := hr2.get (List.getElem?_eq_getElem (l := ys) (i := ys.length - 1 - i) (by omega))
              rw [hl, hr.length] at hw
              refine ⟨⟨by rw [← hr.length, ← hl]; exact hi, ws, w, .of e2, hw⟩, fun y H3 ⟨e3, hy⟩ => ?_⟩
              subst e3
              have e4 := hy ws (.of e2)
              rw [hw] at e4
              cases e4
              exact ⟨.refl _, r2, rw'⟩
            · have hg : ys.reverse[i]? = none := List.getElem?_eq_none_iff.mpr (by rw [List.length_reverse]; omega)
              rw [hg]
              show vs.length ≤ i
              rw [← hr.length, ← hl]
              omega
          · rw [if_neg hl]; trivial
        | _ => trivial
    · exact q2.elim
  | _ => exact q1.elim⟩
end
end VL

set_option Elab.async false
set_option linter.all false
set_option maxRecDepth 100000
set_option maxHeartbeats 2000000
namespace VL
open PySem PySem.Spec PyProof.Rows L2
/-! ### enumerate, zip -/
def pr (x y : LV) : LV := .tup [x, y]
def itEnS (xs : List LV) : LIt := fun i _ => some (xs[i]?.map fun x => .tup [.int (i : Nat), x])
def itEnL (a : Addr) : LIt := fun i h => match h a with
  | some (.lst xs) => some (xs[i]?.map fun x => .tup [.int (i : Nat), x])
  | _ => none
def liEnumL (l : LTE) : LTI := fun s h E L => l s h E fun x h1 => match x with
  | .rl xs => L (itEnS xs) h1
  | .ref a => (match h1 a with
    | some (.lst _) => L (itEnL a) h1
    | _ => False)
  | _ => False
section
variable {K : PySem.W.Frag}
theorem pair_new {H : Hp} {T : Addr} {x y : LV} {v u : V} (n : H T = none) (rx : RV K H x v) (ry : RV K H y u) : RV K (upd H T (.tup [v, u])) (.tup [x, y]) (.ref T) :=
  .tup (.of upd_same) (.cons (rx.mono (.new n)) (.cons (ry.mono (.new n)) .nil))
theorem rit_enum {H0 : Hp} {a : Addr} {xs : List LV} {vs : List V} (fz : FzL K H0 a vs) (hr : RVs K H0 xs vs) : RIt K H0 (Ite K a) (itEnS xs) := fun i H h t r => by
  have ht2 := (t.l _ _ fz).sq
  have hr2 := hr.mono t
  unfold itEnS
  cases e : xs[i]? with
  | none => exact ⟨vs, ht2, by rw [← hr.length]; exact List.getElem?_eq_none_iff.mp e⟩
  | some x =>
    obtain ⟨w, hw, rw'⟩ := hr2.get e
    refine ⟨⟨vs, w, ht2, hw⟩, fun y H3 ⟨T, x', e1, e2, e3, hy⟩ => ?_⟩
    subst e1 e3
    have e4 := hy vs ht2
    rw [hw] at e4
    cases e4
    exact ⟨.new e2, r.new e2, pair_new e2 (.int _) rw'⟩
theorem rit_enumL {H0 : Hp} {a : Addr} : RIt K H0 (Ite K a) (itEnL a) := fun i H h t r => by
  unfold itEnL
  cases eb : h a with
  | none => trivial
  | some o =>
    cases o with
    | lst ys =>
      obtain ⟨ws, e2, hr2⟩ := r a _ eb
      dsimp only
      cases e : ys[i]? with
      | none => exact ⟨ws, .of e2, by rw [← hr2.length]; exact List.getElem?_eq_none_iff.mp e⟩
      | some x =>
        obtain ⟨w, hw, rw'⟩ := hr2.get e
        refine ⟨⟨ws, w, .of e2, hw⟩, fun y H3 ⟨T, x', e1, e3, e4, hy⟩ => ?_⟩
        subst e1 e4
        have e5 := hy ws (.of e2)
        rw [hw] at e5
        cases e5
        exact ⟨.new e3, r.new e3, pair_new e3 (.int _) rw'⟩
    | _ => trivial
end
section
variable {X : Cx} {W : WX} {e e2 : Expr} {le la lb : LTE} {p pos tpos : Pos} {elts : List Expr} {kk : Nat}
theorem li_enumL (hm : X.mg "enumerate" = none) (ha : LE X W e le) (hg : Gl X "enumerate" := by rfl) (hs : starEach [e] X.env = [(false, eval e X.env)] := by rfl) :
    LI X W (.Tuple elts kk tpos) (.Call (.Name "enumerate" p) [e] [] pos) (liEnumL le) := piW (pi_enum hg hm (pa_cons ha pa_nil hs) hs) fun σ H R ⟨s, h, E, L, z, hl, out⟩ => ⟨s, h, E, _, z, hl, fun v H1 x h1 t1 r1 rx q1 => by
  cases rx with
  | rl ht hr => exact ⟨_, _, rfl, ht.sq, out _ H1 _ h1 t1 r1 (rit_enum ht hr) q1⟩
  | ref a =>
    have q2 : (match h1 a with
      | some (.lst _) => L (itEnL a) h1
      | _ => False) := q1
    split at q2
    · rename_i xs ea
      obtain ⟨vs, e1, hr⟩ := r1 a _ ea
      exact ⟨a, vs, rfl, .of e1, out _ H1 _ h1 t1 r1 rit_enumL q2⟩
    · exact q2.elim
  | _ => exact q1.elim⟩
/-- zip of two tuples, of two lists -/
def zget (xs ys : List LV) (i : Nat) : Option LV := match xs[i]?, ys[i]? with
  | some x, some y => some (.tup [x, y])
  | _, _ => none
def itZS (xs ys : List LV) : LIt := fun i _ => some (zget xs ys i)
def itZL (a b : Addr) : LIt := fun i h => match h a, h b with
  | some (.lst xs), some (.lst ys) => some (zget xs ys i)
  | _, _ => none
def liZip (la lb : LTE) : LTI := fun s h E L => la s h E fun x h1 => lb s h1 E fun y h2 => match x, y with
  | .tup xs, .tup ys => L (itZS xs ys) h2
  | .ref a, .ref b => (match h2 a, h2 b with
    | some (.lst _), some (.lst _) => L (itZL a b) h2
    | _, _ => False)
  | _, _ => False
theorem zip_rit {K : PySem.W.Frag} {H : Hp} {h : LH} {xs ys : List LV} {vs ws : List V} {i : Nat} {J : It} (r : RH K H h) (hr : RVs K H xs vs) (hq : RVs K H ys ws) (stop : vs.length ≤ i ∨ ws.length ≤ i → J.stop i H)
    (go : ∀ v w, vs[i]? = some v → ws[i]? = some w → J.go i H) (yld : ∀ u H', J.yld i H u H' → ∃ T x y, u = .ref T ∧ H T = none ∧ H' = upd H T (.tup [x, y]) ∧ vs[i]? = some x ∧ ws[i]? = some y) :
    match (some (zget xs ys i) : Option (Option LV)) with
    | none => True
    | some none => J.stop i H
    | some (some x) => J.go i H ∧ ∀ v H', J.yld i H v H' → TLe K H H' ∧ RH K H' h ∧ RV K H' x v := by
  unfold zget
  cases e1 : xs[i]? with
  | none => exact stop (.inl (by rw [← hr.length]; exact List.getElem?_eq_none_iff.mp e1))
  | some x =>
    cases e2 : ys[i]? with
    | none => exact stop (.inr (by rw [← hq.length]; exact List.getElem?_eq_none_iff.mp e2))
    | some y =>
      obtain ⟨v, hv, rv⟩ := hr.get e1
      obtain ⟨w, hw, rw'⟩ := hq.get e2
      refine ⟨go v w hv hw, fun u H' q => ?_⟩
      obtain ⟨T, a, b, rfl, n, rfl, h1, h2⟩ := yld u H' q
      rw [hv] at h1
      rw [hw] at h2
      cases h1
      cases h2
      exact ⟨.new n, r.new n, pair_new n rv rw'⟩
theorem li_zip (hm : X.mg "zip" = none) (ha : LE X W e la) (hb : LE X W e2 lb) (hg : Gl X "zip" := by rfl) (hs : starEach [e, e2] X.env = (false, eval e X.env) :: starEach [e2] X.env := by rfl) (hs2 : starEach [e2] X.env = (false, eval e2 X.env) :: starEach [] X.env := by rfl)
    (hpl : (backTo pos (starEach [e2] X.env)).any (·.1) = false := by rfl) : LI X W (.Tuple elts kk tpos) (.Call (.Name "zip" p) [e, e2] [] pos) (liZip la lb) :=
  piW (RZ.pi_zipA hg hm (pa_cons ha (pa_cons hb pa_nil hs2) hs) hs hpl) fun σ H R ⟨s, h, E, L, z, hl, out⟩ => ⟨s, h, E, _, z, hl, fun v H1 x h1 t1 r1 rx q1 => ⟨s, h1, E, _, z.step t1 r1, q1, fun u H2 y h2 t2 r2 ry q2 => by
    have rx2 := rx.mono t2
    cases rx2 with
    | tup ht hr =>
      cases ry with
      | tup ht' hr' =>
        refine ⟨_, _, _, _, rfl, .inr ⟨ht, ht', out _ H2 _ h2 (t1.trans t2) r2 (fun i H3 h3 t3 r3 => ?_) q2⟩⟩
        have a1 := t3.t _ _ ht
        have a2 := t3.t _ _ ht'
        exact zip_rit r3 (hr.mono t3) (hr'.mono t3) (fun q => ⟨_, _, a1, a2, q⟩) (fun v w hv hw => ⟨_, _, v, w, a1, a2, hv, hw⟩) fun u H' ⟨T, x, y, q1, q2, q3, q4, q5⟩ => ⟨T, x, y, q1, q2, q3, q4 _ a1, q5 _ a2⟩
      | _ => exact q2.elim
    | ref a =>
      cases ry with
      | ref b =>
        have q3 : (match h2 a, h2 b with
          | some (.lst _), some (.lst _) => L (itZL a b) h2
          | _, _ => False) := q2
        split at q3
        · rename_i xs ys ea eb
          obtain ⟨vs, e1, hr⟩ := r2 a _ ea
          obtain ⟨ws, e2, hq⟩ := r2 b _ eb
          refine ⟨_, _, _, _, rfl, .inl ⟨.of e1, .of e2, out _ H2 _ h2 (t1.trans t2) r2 (fun i H3 h3 t3 r3 => ?_) q3⟩⟩
          unfold itZL
          cases ec : h3 a with
          | none => trivial
          | some oc =>
            cases ed : h3 b with
            | none => cases oc <;> trivial
            | some od =>
              cases oc with
              | lst xs' =>
                cases od with
                | lst ys' =>
                  obtain ⟨vs', e1', hr'⟩ := r3 a _ ec
                  obtain ⟨ws', e2', hq'⟩ := r3 b _ ed
                  exact zip_rit r3 hr' hq' (fun q => ⟨_, _, .of e1', .of e2', q⟩) (fun v w hv hw => ⟨_, _, v, w, .of e1', .of e2', hv, hw⟩) fun u H' ⟨T, x, y, q1, q2, q3, q4, q5⟩ => ⟨T, x, y, q1, q2, q3, q4 _ (.of e1'), q5 _ (.of e2')⟩
                | _ => trivial
              | _ => cases od <;> trivial
        · exact q3.elim
      | _ => exact q2.elim
    | _ => exact q2.elim⟩⟩
end
/-! ### comprehensions -/
/-- a comprehension's target: a name, names in a tuple -/
inductive NT where
  | nm (i : Nat) | tp (is : List Nat)
def rGs : List Nat → TGs
  | [] => gNil
  | i :: r => gCons (gName i) (rGs r)
def rG (K : PySem.W.Frag) : NT → TG
  | .nm i => gName i
  | .tp is => gTup K is.length (rGs is)
def sets (s : LS) : List Nat → List LV → LS
  | i :: is, x :: xs => sets (s.set i (some x)) is xs
  | _, _ => s
def NT.put (t : NT) (x : LV) (s : LS) : Option LS := match t with
  | .nm i => some (s.set i (some x))
  | .tp is => (match x with
    | .tup xs => if xs.length = is.length then some (sets s is xs) else none
    | _ => none)
def NT.own (t : NT) (vs : List Nat) : Bool := match t with
  | .nm i => vs.contains i
  | .tp is => is.all fun i => vs.contains i
def lwipe (s : LS) : List Nat → LS
  | [] => s
  | v :: vs => (lwipe s vs).set v none
theorem RS.wipe {K : PySem.W.Frag} {H : Hp} {s : LS} {σ : L2.St} (r : RS K H s σ) : ∀ vs : List Nat, RS K H (lwipe s vs) (L2.wipe σ vs)
  | [] => r
  | v :: vs => (RS.wipe r vs).clear v
theorem wipe_set {σ : L2.St} {i : Nat} {v : V} : ∀ {vs : List Nat}, i ∈ vs → wipe (σ.set i (some v)) vs = wipe σ vs
  | [], h => by cases h
  | j :: vs, h => by
    show (wipe (σ.set i (some v)) vs).set j none = (wipe σ vs).set j none
    by_cases hj : i ∈ vs
    · rw [wipe_set hj]
    · have e : i = j := by
        rcases List.mem_cons.mp h with e | e
        · exact e
        · exact absurd e hj
      subst e
      have aux : ∀ ws : List Nat, i ∉ ws → wipe (σ.set i (some v)) ws = (wipe σ ws).set i (some v) := by
        intro ws
        induction ws with
        | nil => intro _; rfl
        | cons w ws ih =>
          intro hw
          show (wipe (σ.set i (some v)) ws).set w none = ((wipe σ ws).set w none).set i (some v)
          rw [ih fun q => hw (List.mem_cons_of_mem _ q), List.set_comm]
          rintro rfl
          exact hw List.mem_cons_self
      rw [aux vs hj, List.set_set]
theorem wipe_get (σ : L2.St) (j : Nat) : ∀ vs : List Nat, (wipe σ vs)[j]? = if j ∈ vs then σ[j]?.map (fun _ => none) else σ[j]?
  | [] => by simp [wipe]
  | v :: vs => by
    show ((wipe σ vs).set v none)[j]? = _
    rw [List.getElem?_set, wipe_length, wipe_get σ j vs]
    by_cases h : v = j
    · subst h
      rw [if_pos rfl, if_pos List.mem_cons_self]
      by_cases hl : v < σ.length
      · rw [if_pos hl, List.getElem?_eq_getElem hl]; rfl
      · rw [if_neg hl, List.getElem?_eq_none (by omega)]; rfl
    · rw [if_neg h]
      by_cases hj : j ∈ vs
      · rw [if_pos hj, if_pos (List.mem_cons_of_mem _ hj)]
      · rw [if_neg hj, if_neg (by
          intro q
          rcases List.mem_cons.mp q with q | q
          · exact h q.symm
          · exact hj q)]
theorem wipe_wipe (σ : L2.St) (vs : List Nat) : wipe (wipe σ vs) vs = wipe σ vs := by
  apply List.ext_getElem?
  intro j
  rw [wipe_get, wipe_get]
  split
  · cases σ[j]? <;> rfl
  · rfl
theorem rGs_ok {K : PySem.W.Frag} {H : Hp} {vs0 : List Nat} : ∀ {is : List Nat} {xs : List LV} {vs : List V} {s : LS} {σ : L2.St} {Q : L2.St → Hp → Prop}, xs.length = is.length → RVs K H xs vs → RS K H s σ → (∀ i ∈ is, i ∈ vs0) →
    (∀ σ2, RS K H (sets s is xs) σ2 → wipe σ2 vs0 = wipe σ vs0 → Q σ2 H) → rGs is vs σ H Q
  | [], xs, vs, s, σ, Q, hl, hr, rs, ho, q => by
    cases hr with
    | nil => exact ⟨rfl, q σ rs rfl⟩
    | cons a b => cases hl
  | i :: is, xs, vs, s, σ, Q, hl, hr, rs, ho, q => by
    cases hr with
    | nil => cases hl
    | cons a b =>
      refine ⟨_, _, rfl, ?_⟩
      refine rGs_ok (Nat.succ.inj hl) b (rs.set a i) (fun j hj => ho j (List.mem_cons_of_mem _ hj)) fun σ2 r2 e2 => q σ2 r2 ?_
      rw [e2, wipe_set (ho i List.mem_cons_self)]
theorem rG_ok {K : PySem.W.Frag} {H : Hp} {vs0 : List Nat} {t : NT} {x : LV} {v : V} {s s2 : LS} {σ : L2.St} {Q : L2.St → Hp → Prop} (r : RV K H x v) (rs : RS K H s σ) (ho : t.own vs0 = true) (hp : t.put x s = some s2)
    (q : ∀ σ2, RS K H s2 σ2 → wipe σ2 vs0 = wipe σ vs0 → Q σ2 H) : rG K t v σ H Q := by
  cases t with
  | nm i =>
    cases hp
    exact q _ (rs.set r i) (wipe_set (by simpa [NT.own] using ho))
  | tp is =>
    unfold NT.put at hp
    dsimp only at hp
    split at hp
    · split at hp
      · rename_i hl
        cases hp
        cases r with
        | tup ht hr => exact ⟨_, _, rfl, ht, by rw [← hr.length]; exact hl, rGs_ok hl hr rs (by simpa [NT.own] using ho) q⟩
      · cases hp
    · cases hp
abbrev W0 : WX := fun _ _ _ _ => False
def upTs (K : PySem.W.Frag) (l : LTT) : TT := upT K W0 l
abbrev LTs (X : Cx) (ifs : List Expr) (l : LTT) : Prop := PTs X ifs (upTs X.K l)
def lYes : LTT := fun _ h _ L => L true h
def lLc (li : LTI) (nt : NT) (lt : LTT) (le : LTE) (vs : List Nat) : LTE := fun s h E L => li s h E fun it h1 => ∀ D, h1 D = none → ∃ (n : Nat) (P : Nat → LH → Prop), P 0 (up h1 D (.lst [])) ∧ ∀ i h, P i h → match it i h with
  | none => False
  | some none => L (.ref D) h
  | some (some x) => i < n ∧ match nt.put x (lwipe s vs) with
    | some s2 => lt s2 h X0 fun b h3 => if b = true then le s2 h3 X0 fun y h4 => (match h4 D with
      | some (.lst acc) => acc.length < 100000 ∧ P (i + 1) (up h4 D (.lst (acc ++ [y])))
      | _ => False) else P (i + 1) h3
    | none => False
section
variable {X : Cx} {W : WX}
theorem lts_nil : LTs X [] lYes := ⟨fun pins s σ H Q I ⟨s', h, E, L, z, hl, o⟩ => pts_nil.run pins s σ H Q I (o true H h (.refl H) z.rh hl)⟩
theorem lts_one {c : Expr} {l : LTT} (h : LT X W0 c l) : LTs X [c] l := pts_one h
theorem lc_imp {li : LTI} {nt : NT} {lt : LTT} {le : LTE} {vs0 : List Nat} (ho : nt.own vs0 = true) : ∀ σ H Q, upE X.K W (lLc li nt lt le vs0) σ H Q → tLc (upI X.K W li) (rG X.K nt) (upTs X.K lt) (upE X.K W0 le) vs0 σ H Q := fun σ H Q ⟨s, h, E, L, z, hl, out⟩ => ⟨s, h, E, _, z, hl, fun J H1 it h1 t1 r1 rit q1 D hD => by
    obtain ⟨n, P, p0, step⟩ := q1 D (r1.fresh hD)
    have tD : TLe X.K H1 (upd H1 D (.lst [])) := .new hD
    refine ⟨fun i m H' => ∃ h', TLe X.K H1 H' ∧ RH X.K H' h' ∧ P i h' ∧ m = n - i, ⟨n, _, tD, r1.lay hD (.mkL upd_same .nil), p0, by omega⟩, ?_⟩
    rintro i m H' ⟨h', t2, r2, p, rfl⟩
    have q := step i h' p
    have zz := rit i H' h' t2 r2
    split at q
    · exact q.elim
    · rename_i e
      rw [e] at zz
      exact .inl ⟨zz, out _ H' (.ref D) h' (t1.trans t2) r2 (.ref D) q⟩
    · rename_i x e
      rw [e] at zz
      obtain ⟨hn, q2⟩ := q
      refine .inr ⟨zz.1, fun H2 => ∃ h2, TLe X.K H1 H2 ∧ RH X.K H2 h2 ∧ P (i + 1) h2, fun H2 ⟨h2, a, b, c⟩ => ⟨n - (i + 1), by omega, h2, a, b, c, rfl⟩, fun v H3 y => ?_⟩
      obtain ⟨t3, r3, rv⟩ := zz.2 v H3 y
      split at q2
      · rename_i s2 es
        have tt : TLe X.K H1 H3 := t2.trans t3
        refine rG_ok rv ((z.rs.mono (t1.trans tt)).wipe _) ho es fun σ2 rs2 ew => ⟨by rw [ew, wipe_wipe], s2, h', X0, _, ⟨rs2, r3, fun _ _ _ _ _ _ _ _ q => q.elim⟩, q2, fun b H4 h4 t4 r4 q4 => ?_⟩
        cases b with
        | true =>
          rw [if_pos rfl] at q4 ⊢
          refine ⟨s2, h4, X0, _, ⟨rs2.mono t4, r4, fun _ _ _ _ _ _ _ _ q => q.elim⟩, q4, fun v5 H5 y5 h5 t5 r5 ry5 q5 => ?_⟩
          split at q5
          · rename_i acc ea
            obtain ⟨vs, e1, hr⟩ := r5 D _ ea
            have t6 : TLe X.K H5 (upd H5 D (.lst (vs ++ [v5]))) := .lst e1
            exact ⟨vs, e1, by rw [← hr.length]; exact szlt q5.1, _, ((tt.trans t4).trans t5).trans t6, r5.upd t6 (.mkL upd_same ((hr.append (.cons ry5 .nil)).mono t6)), q5.2⟩
          · exact q5.elim
        | false =>
          rw [if_neg Bool.false_ne_true] at q4 ⊢
          exact ⟨h4, tt.trans t4, r4, q4⟩
      · exact q2.elim⟩
theorem le_lc {elt tg iter : Expr} {ifs : List Expr} {scope : Scope} {pos : Pos} {li : LTI} {lt : LTT} {le : LTE} (own : List (Str × Nat)) (nt : NT) (hc : X.calm = true) (hN : X.N.Nodup) (hi : LI X W tg iter li) (ok : blkC X.N X.env.scope scope own = true)
    (hg : ∀ (s : Shared) (H : Hp) (C : Addr) (cl : List (Str × Addr)) (fp : List Addr), PG (X.blk s H scope (compEnvC scope cl C X.env) fp) tg (rG X.K nt))
    (ht : ∀ (s : Shared) (H : Hp) (C : Addr) (cl : List (Str × Addr)) (fp : List Addr), LTs (X.blk s H scope (compEnvC scope cl C X.env) fp) ifs lt)
    (he : ∀ (s : Shared) (H : Hp) (C : Addr) (cl : List (Str × Addr)) (fp : List Addr), LE (X.blk s H scope (compEnvC scope cl C X.env) fp) W0 elt le)
    (ho : nt.own (own.map (·.2)) = true := by decide) (hs : ∀ x, foldedSetIterable iter X.env x = pure x := by intro _; rfl) :
    LE X W (.ListComp elt [⟨tg, iter, ifs, 0⟩] scope pos) (lLc li nt lt le (own.map (·.2))) :=
  peW (pe_lc (own := own) (tt := upTs X.K lt) (te := upE X.K W0 le) hc hN hi (blkOk_by ok) hg ht he hs) (lc_imp ho)
/-- name = [.. for ..] -/
theorem ls_setLc {y : Str} {py : Pos} {elt tg iter : Expr} {ifs : List Expr} {scope : Scope} {pos spos : Pos} {li : LTI} {lt : LTT} {le : LTE} (i : Nat) (own : List (Str × Nat)) (nt : NT) (hc : X.calm = true) (hN : X.N.Nodup) (hi' : LI X W tg iter li) (ok : blkC X.N X.env.scope scope own = true)
    (hg : ∀ (s : Shared) (H : Hp) (C : Addr) (cl : List (Str × Addr)) (fp : List Addr), PG (X.blk s H scope (compEnvC scope cl C X.env) fp) tg (rG X.K nt))
    (ht : ∀ (s : Shared) (H : Hp) (C : Addr) (cl : List (Str × Addr)) (fp : List Addr), LTs (X.blk s H scope (compEnvC scope cl C X.env) fp) ifs lt)
    (he : ∀ (s : Shared) (H : Hp) (C : Addr) (cl : List (Str × Addr)) (fp : List Addr), LE (X.blk s H scope (compEnvC scope cl C X.env) fp) W0 elt le)
    (hy : X.N[i]? = some y := by rfl) (hyl : X.env.scope.names.lookup y = some .local := by rfl) (hsw : swapsWith (.ListComp elt [⟨tg, iter, ifs, 0⟩] scope pos) (some (.Name y py)) spos.line X.env = pure true := by exact sw_true rfl rfl rfl (by decide +kernel))
    (ho : nt.own (own.map (·.2)) = true := by decide) (hs : ∀ x, foldedSetIterable iter X.env x = pure x := by intro _; rfl) :
    LSt X W (.Assign [.Name y py] (.ListComp elt [⟨tg, iter, ifs, 0⟩] scope pos) spos) (lAsg (lLc li nt lt le (own.map (·.2))) (lgName i)) :=
  psW (ps_setLc (own := own) (tt := upTs X.K lt) (te := upE X.K W0 le) hc hN hy hyl hsw hi' (blkOk_by ok) hg ht he hs) fun D σ H ⟨s, h, LD, rs, rh, hl, out⟩ => lc_imp ho σ H _
    ⟨s, h, fun c fs h' => LD.ex c fs s h', fun x h1 => LD.nx (s.set i (some x)) h1, sit_of rs rh out.ex, hl, fun v H1 x h1 t1 r1 rx q1 => out.nx _ H1 _ h1 t1 ((rs.mono t1).set rx i) r1 q1⟩
end
/-! ### a def by its body -/
/-- less may be told -/
def Dn (L : LH → Prop) (h : LH) : Prop := ∃ h0, (∀ a o, h0 a = some o → h a = some o) ∧ L h0
theorem Dn.mk {L : LH → Prop} {h : LH} (q : L h) : Dn L h := ⟨h, fun _ _ e => e, q⟩
/-- the ends of a def -/
def fnE (E : LX) (L : LK) : LEnds := { nx := fun _ h' => Dn (L .non) h', rt := fun x h' => Dn (L x) h', ex := fun c fs _ h' => Dn (E c fs) h' }
def lstart (n : Nat) (xs : List LV) : LS := xs.map some ++ List.replicate (n - xs.length) none
section
variable {P : Program} {w : World} {K : PySem.W.Frag} {mg : Str → Option Value} {base : Heap} {x qual : Str} {params : Arguments} {body : List Stmt} {scope : Scope} {f : Addr} {fd : FuncData}
theorem fn_body {N ps : List Str} {k : Nat} {ls : LSp} {l : LTS} (F : FunD K x qual params body scope [] [] f fd) (S : FnScope N ps scope) (rd : ∀ xs h E L, ls xs h E L → xs.length = ps.length ∧ l (fnE E L) (lstart N.length xs) h)
    (hb : ∀ (cdv : Value) (A : Around) (outer : List Env) (s : Shared) (H : Hp) (E : XK), Room k (A.deeper (envOfC qual scope s.heap.objs.size f cdv)) →
      LSs (cxOf (L2.CX P w) P w K mg base N qual scope f cdv A outer s H E) (fun cls d _ H' => E cls d H') body l) : LFn P w K mg base (k + 1) f fd ps ls := by
  refine F.ok S (fun vs H Q E h => ?_) fun cdv A outer s H vs Q E hr h => ?_
  · obtain ⟨xs, hh, LE, L, rxs, rh, q, _⟩ := h
    rw [← rxs.length]
    exact (rd xs hh LE L q).1
  · obtain ⟨xs, hh, LE, L, rxs, rh, q, ov, ox⟩ := h
    refine ⟨_, hb cdv A outer s H E hr, _, hh, _, ?_, rh, (rd xs hh LE L q).2, ⟨fun σ' H' s' h' t r1 r2 ⟨h0, sb, q2⟩ => ov .non H' .non h0 t (r2.sub sb) .non q2, fun v H' x h' t r2 rv ⟨h0, sb, q2⟩ => ov v H' x h0 t (r2.sub sb) rv q2, fun c fs d σ' H' s' h' t r1 r2 rd ⟨h0, sb, q2⟩ => ox c fs d H' h0 t (r2.sub sb) rd q2, fun _ _ _ _ _ _ _ q2 => q2.elim, fun _ _ _ _ _ _ _ q2 => q2.elim⟩⟩
    unfold lstart L2.start
    rw [rxs.length]
    exact RS.append (RS.args (N := N) rxs) (RS.nones _)
/-- nothing is let out -/
theorem LFn.still {k : Nat} {ps : List Str} {ls : LSp} (F : LFn P w K mg base k f fd ps ls) : FnOk P w K mg base CX0 k f fd ps (fun vs H Q _ => upSp K ls vs H Q fun _ _ _ => False) :=
  ⟨fun vs H Q E h => F.len vs H Q _ h, fun A outer s H args us vs Q E hr he hb hv hs => codeAny_mono (F.run A outer s H args us vs Q _ hr he hb hv hs) fun r s' q => by
    cases r with
    | ok fl => cases fl <;> exact q
    | error e =>
      obtain ⟨_, _, _, _, _, _, _, _, _, _, _, _, z⟩ := q
      exact z.elim⟩
/-- the law's own promise -/
def lspLaw : LSp := fun xs h E L => ∃ ns : List Int, xs = [.rl (ns.map .int)] ∧ ns.length ≤ 63 ∧ (∀ a, h a = none) ∧ ∀ h', L (.bl true) h'
theorem law_start {H : Hp} {a : Addr} {ns : List Int} (hl : ns.length ≤ 63) (ho : Only H) (hs : SqL K H a (ns.map V.int)) : (fun vs H Q (_ : XK) => upSp K lspLaw vs H Q fun _ _ _ => False) [.ref a] H (fun v _ => v = .bl true) fun _ _ _ => False := by
  have fz : FzL K H a (ns.map V.int) := by
    rcases hs with (hs | hs) | hs
    · rcases ho a with e | ⟨o, xs, e⟩
      · rw [e] at hs; cases hs
      · rw [e] at hs; cases hs
    · exact .inl hs
    · exact .inr hs
  refine ⟨[.rl (ns.map .int)], fun _ => none, X0, fun x _ => x = .bl true, .cons (.rl fz (.ints ns)) .nil, fun _ _ e => (by cases e), ⟨ns, rfl, hl, fun _ => rfl, fun _ => rfl⟩, fun v H' x h' t r rx q => ?_, fun _ _ _ _ _ _ _ _ q => q.elim⟩
  subst q
  cases rx
  rfl
end
end VL

set_option Elab.async false
set_option linter.all false
set_option maxRecDepth 100000
set_option maxHeartbeats 2000000
namespace VL
open PySem PySem.Spec PyProof.Rows L2
/-! ### defs of the text by their place -/
section
variable {P : Program} {w : World} {K : PySem.W.Frag} {mg : Str → Option Value} {base : Heap}
/-- the def at a place of the module keeps its promise -/
def LOk (P : Program) (w : World) (K : PySem.W.Frag) (mg : Str → Option Value) (base : Heap) (k : Nat) (at_ : Str × Option Str) (ps : List Str) (ls : LSp) : Prop :=
  ∃ fd, LFn P w K mg base k (He.fAd K at_) fd ps ls ∧ Binds K fd ps [] ∧ PySem.W.keepIn K (.ref (He.fAd K at_)) = true ∧ ∃ oc od osl, K.lookup (He.fAd K at_) = some ⟨oc, od, .func fd, osl⟩
theorem fn_bodyO {x qual : Str} {params : Arguments} {body : List Stmt} {scope : Scope} {at_ : Str × Option Str} {N ps : List Str} {k : Nat} {ls : LSp} {l : LTS}
    (d : ∃ fd, FunD K x qual params body scope [] [] (He.fAd K at_) fd) (S : FnScope N ps scope) (rd : ∀ xs h E L, ls xs h E L → xs.length = ps.length ∧ l (fnE E L) (lstart N.length xs) h)
    (bd : ∀ (kV doc pm : Value) (an : Option Addr) (cdv ct : Value) (us : List Value), us.length = ps.length → bindArgs (PySem.W.fnOf x qual params body scope .none kV doc pm an cdv ct) ⟨us, []⟩ = pure (ps.zip us))
    (hb : ∀ (cdv : Value) (A : Around) (outer : List Env) (s : Shared) (H : Hp) (E : XK), Room k (A.deeper (envOfC qual scope s.heap.objs.size (He.fAd K at_) cdv)) →
      LSs (cxOf (L2.CX P w) P w K mg base N qual scope (He.fAd K at_) cdv A outer s H E) (fun cls d _ H' => E cls d H') body l) : LOk P w K mg base (k + 1) at_ ps ls := by
  obtain ⟨fd, F⟩ := d
  obtain ⟨oc, od, dV, kV, doc, pm, an, cdv, ct, osl, hfd, lk, _⟩ := F.ex
  exact ⟨fd, fn_body F S rd hb, F.bindsN bd, F.kp, oc, od, osl, lk⟩
/-- a promise that is never asked for -/
theorem LOk.never {x qual : Str} {params : Arguments} {body : List Stmt} {scope : Scope} {at_ : Str × Option Str} {ps : List Str} {k : Nat} {ls : LSp}
    (d : ∃ fd, FunD K x qual params body scope [] [] (He.fAd K at_) fd) (nv : ∀ xs h E L, ¬ ls xs h E L)
    (bd : ∀ (kV doc pm : Value) (an : Option Addr) (cdv ct : Value) (us : List Value), us.length = ps.length → bindArgs (PySem.W.fnOf x qual params body scope .none kV doc pm an cdv ct) ⟨us, []⟩ = pure (ps.zip us)) : LOk P w K mg base k at_ ps ls := by
  obtain ⟨fd, F⟩ := d
  obtain ⟨oc, od, dV, kV, doc, pm, an, cdv, ct, osl, hfd, lk, _⟩ := F.ex
  exact ⟨fd, ⟨fun vs H Q E ⟨xs, h, LE, L, _, _, q, _⟩ => absurd q (nv _ _ _ _), fun A outer s H args us vs Q E _ _ _ _ ⟨xs, h, LE, L, _, _, q, _⟩ => absurd q (nv _ _ _ _)⟩, F.bindsN bd, F.kp, oc, od, osl, lk⟩
theorem takes_of_body {N : List Str} {qual : Str} {scope : Scope} {f : Addr} {cd : Value} {A : Around} {outer : List Env} {s : Shared} {H : Hp} {E : XK} :
    Takes (cxOf (L2.CX P w) P w K mg base N qual scope f cd A outer s H E) (fun cls d _ H' => E cls d H') := takes_of rfl rfl rfl rfl
theorem passes_body {N : List Str} {qual : Str} {scope : Scope} {f : Addr} {cd : Value} {A : Around} {outer : List Env} {s : Shared} {H : Hp} {E : XK} :
    PassesOwn (model (cxOf (L2.CX P w) P w K mg base N qual scope f cd A outer s H E).prog (cxOf (L2.CX P w) P w K mg base N qual scope f cd A outer s H E).w) (cxOf (L2.CX P w) P w K mg base N qual scope f cd A outer s H E).A (cxOf (L2.CX P w) P w K mg base N qual scope f cd A outer s H E).env (cxOf (L2.CX P w) P w K mg base N qual scope f cd A outer s H E).xe := passes_of rfl
theorem hu65_of {k : Nat} {A : Around} (r : Room k A) : A.units + 65 < cLine := by have := r.un; omega
theorem hu_of {k : Nat} {A : Around} (r : Room k A) : A.units + 1 < cLine := by have := r.un; omega
end
section
variable {X : Cx} {W : WX} {o e : Expr} {es : List Expr} {lo : LTE} {lr : LTA} {x m : Str} {p pos apos : Pos} {k : Nat} {at_ : Str × Option Str} {ps : List Str} {ls : LSp} {c : Cn}
theorem le_callO (F : LOk X.prog X.w X.K X.mg X.base k at_ ps ls) (hm : X.mg x = some (.ref (He.fAd X.K at_))) (hr : Room k X.A) (tk : Takes X W) (ha : LA X W (e :: es) lr) (hg : Gl X x := by rfl)
    (hdb : (x == ("__debug__" : Str)) = false := by decide) (he : starEach (e :: es) X.env = (false, eval e X.env) :: starEach es X.env := by rfl) (hpl : (backTo pos (starEach es X.env)).any (·.1) = false := by rfl) :
    LE X W (.Call (.Name x p) (e :: es) [] pos) (lCall ls lr) := by
  obtain ⟨fd, F1, hb, hk, _⟩ := F
  exact le_call F1 hm hk hb hr tk ha hg hdb he hpl
theorem le_methO {pl : Sem Bool} (ho : LE X W o lo) (cl : Cls X.K (c.ad X.K)) (hm : Meth X.K (c.ad X.K) m (He.fAd X.K at_)) (F : LOk X.prog X.w X.K X.mg X.base k at_ ps ls) (hr : Room k X.A) (tk : Takes X W) (ha : LA X W (e :: es) lr) (hnf : ∀ f : Fd, f.nm ≠ m := by intro f; cases f <;> decide +kernel)
    (hst : starEach (e :: es) X.env = (false, eval e X.env) :: starEach es X.env := by rfl) (hpl : (backTo pos (starEach es X.env)).any (·.1) = false := by rfl)
    (ht : eval (.Call (.Attribute o m apos) (e :: es) [] pos) X.env = (do
      let ov ← eval o X.env
      standAt apos.atName
      let (f, first) ← holding [ov] (getMethod ov m pl)
      callWith pos f first (backTo pos (starEach (e :: es) X.env)) (backToKw pos (keywordEach [] X.env))) := by rfl) :
    LE X W (.Call (.Attribute o m apos) (e :: es) [] pos) (lMeth c ls lo lr) := by
  obtain ⟨fd, F1, hb, hk, _⟩ := F
  exact le_meth (pl := pl) ho cl hm F1 hr hb tk ha hnf hst hpl ht
theorem le_methO0 {pl : Sem Bool} (ho : LE X W o lo) (cl : Cls X.K (c.ad X.K)) (hm : Meth X.K (c.ad X.K) m (He.fAd X.K at_)) (F : LOk X.prog X.w X.K X.mg X.base k at_ ps ls) (hr : Room k X.A) (tk : Takes X W) (hnf : ∀ f : Fd, f.nm ≠ m := by intro f; cases f <;> decide +kernel)
    (ht : eval (.Call (.Attribute o m apos) [] [] pos) X.env = (do
      let ov ← eval o X.env
      standAt apos.atName
      let (f, first) ← holding [ov] (getMethod ov m pl)
      callWith pos f first (backTo pos (starEach [] X.env)) (backToKw pos (keywordEach [] X.env))) := by rfl) :
    LE X W (.Call (.Attribute o m apos) [] [] pos) (lMeth c ls lo lNil) := by
  obtain ⟨fd, F1, hb, hk, _⟩ := F
  exact le_meth0 (pl := pl) ho cl hm F1 hr hb tk hnf ht
theorem le_makeO (M : Mk X.K (c.ad X.K) (He.fAd X.K at_)) (F : LOk X.prog X.w X.K X.mg X.base k at_ ps ls) (hm : X.mg x = some (.ref (c.ad X.K))) (hr : Room (k + 1) X.A) (ha : LA X W (e :: es) lr) (hg : Gl X x := by rfl)
    (hdb : (x == ("__debug__" : Str)) = false := by decide) (he : starEach (e :: es) X.env = (false, eval e X.env) :: starEach es X.env := by rfl) (hpl : (backTo pos (starEach es X.env)).any (·.1) = false := by rfl) :
    LE X W (.Call (.Name x p) (e :: es) [] pos) (lMake c ls lr) := by
  obtain ⟨fd, F1, hb, hk, _⟩ := F
  exact le_make M F1 hm hb hr ha hg hdb he hpl
end
/-- the end of a row -/
theorem law_end {P : Program} {w : World} {K : PySem.W.Frag} {mg : Str → Option Value} {h : Heap} {fa : Addr} {k n : Nat} {x qual y : Str} {params : Arguments} {body : List Stmt} {scope : Scope} (X : K.In h) (G : h.Ns mainGlobals mg) (hm : mg "law" = some (.ref fa)) (hn : n ≤ 63)
    (g : (He.Fa.glo "law").ok K = true)
    (d : ∃ fd, FunD K x qual params body scope [] [] (He.fAd K ("law", none)) fd)
    (bd : ∀ (kV doc pm : Value) (an : Option Addr) (cdv ct : Value) (us : List Value), us.length = 1 → bindArgs (PySem.W.fnOf x qual params body scope .none kV doc pm an cdv ct) ⟨us, []⟩ = pure ([y].zip us))
    (hF : ∀ base : Heap, K.In base → base.Ns mainGlobals mg → LOk P w K mg base k ("law", none) [y] lspLaw) :
    ∃ (K : PySem.W.Frag) (fd : FuncData) (sp : Sp), K.In h ∧ (∀ (s : Shared) (u : Value), BindsTo s fd ⟨[u], []⟩ [(y, u)]) ∧
        (∀ (H : Hp) (a : Addr) (ns : List Int), ns.length ≤ n → Only H → SqL K H a (ns.map V.int) → sp [.ref a] H (fun v _ => v = .bl true) fun _ _ _ => False) ∧
        ∀ base : Heap, K.In base → base.Ns mainGlobals mg → FnOk P w K mg base L2.CX0 k fa fd [y] sp := by
  obtain ⟨fd, F⟩ := d
  have e : fa = He.fAd K ("law", none) := by
    have e2 := He.glo_ok X G g
    rw [hm] at e2
    cases e2
    rfl
  subst e
  have b := F.bindsA (ps := [y]) (fun kV doc pm an cdv ct us hl => bd kV doc pm an cdv ct us hl)
  refine ⟨K, fd, fun vs H Q _ => upSp K lspLaw vs H Q fun _ _ _ => False, X, fun s u => b s [u] rfl, fun H a ns hl ho hs => law_start (Nat.le_trans hl hn) ho hs, fun base hk hb => ?_⟩
  obtain ⟨fd2, F2, _, _, oc, od, osl, lk⟩ := hF base hk hb
  obtain ⟨oc1, od1, _, _, _, _, _, _, _, osl1, _, lk1, _⟩ := F.ex
  rw [lk] at lk1
  cases lk1
  exact F2.still
/-! ### list(range(n)), tuple(range(n)) -/
def rgL (n : Nat) : List Int := (List.range n).map fun i => Int.ofNat i
theorem rgL_V (n : Int) : rgV 0 n = (rgL n.toNat).map V.int := by
  unfold rgV rgL
  rw [List.map_map, Int.sub_zero]
  exact List.map_congr_left fun i _ => by show V.int (0 + (i : Int)) = V.int (i : Int); rw [Int.zero_add]
def lListRg1 (l : LTE) : LTE := fun s h E L => l s h E fun x h1 => match x with
  | .int n => (0 ≤ n ∧ n ≤ 1000000) ∧ ∀ p, h1 p = none → L (.ref p) (up h1 p (.lst ((rgL n.toNat).map .int)))
  | _ => False
def lTupRg1 (l : LTE) : LTE := fun s h E L => l s h E fun x h1 => match x with
  | .int n => (0 ≤ n ∧ n ≤ 1000000) ∧ L (.tup ((rgL n.toNat).map .int)) h1
  | _ => False
section
variable {X : Cx} {W : WX} {a : Expr} {la : LTE} {p p2 pos pos2 : Pos}
theorem le_listRg1 (hc : X.calm = true) (hm : X.mg "list" = none) (hm2 : X.mg "range" = none) (ha : LE X W a la) (hg : Gl X "list" := by rfl) (hg2 : Gl X "range" := by rfl)
    (na : starEach [a] X.env = (false, eval a X.env) :: starEach [] X.env := by rfl) (nb : starEach [.Call (.Name "range" p2) [a] [] pos2] X.env = (false, eval (.Call (.Name "range" p2) [a] [] pos2) X.env) :: starEach [] X.env := by rfl) :
    LE X W (.Call (.Name "list" p) [.Call (.Name "range" p2) [a] [] pos2] [] pos) (lListRg1 la) :=
  peW (pe_listRg hc hg hm (prg_1 hg2 hm2 ha na) nb) fun σ H Q ⟨s, h, E, L, z, hl, out⟩ => ⟨s, h, E, _, z, hl, fun v H1 x h1 t1 r1 rx q1 => by
    cases rx with
    | int n => exact ⟨n, rfl, .of_le (by omega) (by omega) (by omega) (by omega), fun q hq => out _ _ (.ref q) _ (t1.trans (.new hq)) (r1.lay hq (.mkL upd_same (by rw [rgL_V]; exact .ints _))) (.ref q) (q1.2 q (r1.fresh hq))⟩
    | _ => exact q1.elim⟩
theorem le_tupRg1 (hc : X.calm = true) (hm : X.mg "tuple" = none) (hm2 : X.mg "range" = none) (ha : LE X W a la) (hg : Gl X "tuple" := by rfl) (hg2 : Gl X "range" := by rfl)
    (na : starEach [a] X.env = (false, eval a X.env) :: starEach [] X.env := by rfl) (nb : starEach [.Call (.Name "range" p2) [a] [] pos2] X.env = (false, eval (.Call (.Name "range" p2) [a] [] pos2) X.env) :: starEach [] X.env := by rfl) :
    LE X W (.Call (.Name "tuple" p) [.Call (.Name "range" p2) [a] [] pos2] [] pos) (lTupRg1 la) :=
  peW (pe_tupRg hc hg hm (prg_1 hg2 hm2 ha na) nb) fun σ H Q ⟨s, h, E, L, z, hl, out⟩ => ⟨s, h, E, _, z, hl, fun v H1 x h1 t1 r1 rx q1 => by
    cases rx with
    | int n => exact ⟨n, rfl, .of_le (by omega) (by omega) (by omega) (by omega), fun q hq => out _ _ (.tup _) h1 (t1.trans (.new hq)) (r1.new hq) (.tup (.of upd_same) (by rw [rgL_V]; exact .ints _)) q1.2⟩
    | _ => exact q1.elim⟩
end
end VL

set_option Elab.async false
set_option linter.all false
set_option maxRecDepth 100000
set_option maxHeartbeats 2000000
namespace VL
open PySem PySem.Spec PyProof.Rows L2
/-! ### heaps: what lies where -/
abbrev Sub (h0 h : LH) : Prop := ∀ a o, h0 a = some o → h a = some o
section
variable {h h0 h1 : LH} {a b p : Addr} {o u : LO} {L : LH → Prop}
theorem up_old (n : h p = none) (e : h a = some o) : up h p u a = some o := by rw [up_ne (ne_fr e n)]; exact e
theorem fr_up (n : up h p u a = none) : h a = none := by
  unfold up at n
  split at n
  · cases n
  · exact n
theorem up_neq (n : a ≠ b) (e : h a = some o) : up h b u a = some o := by rw [up_ne n]; exact e
theorem ne_frE (n : h b = none) (e : ∃ o, h a = some o) : a ≠ b := by
  obtain ⟨o, e⟩ := e
  exact ne_fr e n
theorem Sub.refl (h : LH) : Sub h h := fun _ _ e => e
theorem Sub.fresh (n : h p = none) (s : Sub h0 h) : Sub h0 (up h p u) := fun a o e => up_old n (s a o e)
theorem Sub.up (s : Sub h0 h) : Sub (VL.up h0 b u) (VL.up h b u) := fun a o e => by
  unfold VL.up at e ⊢
  split <;> rename_i q
  · rw [if_pos q] at e; exact e
  · rw [if_neg q] at e; exact s a o e
theorem Dn.sub (s : Sub h0 h) (q : L h0) : Dn L h := ⟨h0, s, q⟩
theorem Dn.fresh (n : h p = none) (q : Dn L h) : Dn L (VL.up h p u) := by
  obtain ⟨h0, s, q⟩ := q
  exact ⟨h0, Sub.fresh n s, q⟩
/-- all but b stays -/
def Keep (b : Addr) (h h1 : LH) : Prop := ∀ a o, a ≠ b → h a = some o → h1 a = some o
theorem Keep.get (k : Keep b h h1) (n : a ≠ b) (e : h a = some o) : h1 a = some o := k a o n e
theorem Keep.refl : Keep b h h := fun _ _ _ e => e
theorem Keep.up (k : Keep b h h1) : Keep b h (VL.up h1 b u) := fun a o n e => up_neq n (k a o n e)
theorem Keep.fresh (k : Keep b h h1) (n : h1 p = none) : Keep b h (VL.up h1 p u) := fun a o q e => up_old n (k a o q e)
theorem Keep.trans {h2 : LH} (k : Keep b h h1) (j : Keep b h1 h2) : Keep b h h2 := fun a o n e => j a o n (k a o n e)
theorem Keep.non (k : Keep b h h1) (n : p ≠ b) (e : h1 p = Option.none) : h p = Option.none := by
  cases q : h p with
  | none => rfl
  | some o => rw [k p o n q] at e; cases e
theorem Keep.own (n : h p = none) (k : Keep b h h1) : Keep b h (VL.up h1 p u) := fun a o q e => up_neq (ne_fr e n) (k a o q e)
theorem Keep.tell (k : Keep b h h1) (n : h b = none) : Sub h h1 := fun a o e => k a o (ne_fr e n) e
theorem Sub.keep (s : Sub h h1) : Keep b h h1 := fun a o _ e => s a o e
end
/-! ### head rules -/
def gChn (x : LV) (A B : Prop) : Prop := match x with
  | .bl true => A
  | .bl false => B
  | _ => False
def gFld (c : Cn) (f : Fd) : LV → LH → LK → Prop := fun x h1 L => match x with
  | .ref a => (match h1 a with
    | some (.ins c' fs) => c' = c ∧ (match fget fs f with
      | some v => L v h1
      | none => False)
    | _ => False)
  | _ => False
def gFldS (c : Cn) (f : Fd) (x : LV) : LV → LH → (LH → Prop) → Prop := fun o h2 L => match o with
  | .ref a => (match h2 a with
    | some (.ins c' fs) => c' = c ∧ fs.length < 100 ∧ L (up h2 a (.ins c (fput f x fs)))
    | _ => False)
  | _ => False
def gFldB (c : Cn) (f : Fd) (a : Addr) (i : Int) : LV → LH → (LH → Prop) → Prop := fun y h2 L => match y with
  | .int j => (match h2 a with
    | some (.ins c'' fs') => c'' = c ∧ fs'.length < 100 ∧ L (up h2 a (.ins c (fput f (.int (i + j)) fs')))
    | _ => False)
  | _ => False
def gFldA (c : Cn) (f : Fd) (lv : LTE) (s : LS) (E : LX) : LV → LH → (LH → Prop) → Prop := fun o h1 L => match o with
  | .ref a => (match h1 a with
    | some (.ins c' fs) => c' = c ∧ (match fget fs f with
      | some (.int i) => lv s h1 E fun y h2 => gFldB c f a i y h2 L
      | _ => False)
    | _ => False)
  | _ => False
def gMth (c : Cn) : LV → LH → Prop → Prop := fun x h1 Q => match x with
  | .ref a => (match h1 a with
    | some (.ins c' _) => c' = c ∧ Q
    | _ => False)
  | _ => False
def gLi : LV → LH → (LIt → LH → Prop) → Prop := fun x h1 KI => match x with
  | .tup xs => KI (itSt xs) h1
  | .rl xs => KI (itSt xs) h1
  | .str z => KI (itSt (z.cps.toList.map fun c => .str ⟨#[c]⟩)) h1
  | .ref a => (match h1 a with
    | some (.lst _) => KI (itL a) h1
    | _ => False)
  | _ => False
section
variable {nx bk ct : LS → LH → Prop} {rt : LK} {ex : SX} {s s' : LS} {h : LH} {E : LX} {L : LK} {LA : List LV → LH → Prop} {LB : Bool → LH → Prop} {LO1 : Option Int → LH → Prop} {D : LEnds} {la lb lc le lo li : LTE} {lr : LTA} {lt lu : LTT} {ll lh : LTO} {t u : LTS} {i j : Int} {n k : Nat} {x y v : LV} {xs ys zs : List LV} {z w : Str} {a b : Addr} {kvs : List (Key × LV)} {fs : List (Fd × LV)} {g : LTG} {gs : LTGs} {G : LR2} {C : LCR} {GM : LMR} {SE : SX} {LN : LS → LH → Prop} {LP : LH → Prop} {c : Cn} {f : Fd}
theorem seqOf_lst0 (e : h a = some (.lst xs)) : seqOf h (.ref a) = some xs := by unfold seqOf; dsimp only; rw [e]
theorem i_seq (q : t ⟨fun s' h' => u ⟨nx, rt, ex, bk, ct⟩ s' h', rt, ex, bk, ct⟩ s h) : lSeq t u ⟨nx, rt, ex, bk, ct⟩ s h := q
theorem seq_cut (M : LS → LH → Prop) (hu : ∀ s' h', M s' h' → u ⟨nx, rt, ex, bk, ct⟩ s' h') (ht : ∀ N : LS → LH → Prop, (∀ s' h', M s' h' → N s' h') → t ⟨N, rt, ex, bk, ct⟩ s h) : lSeq t u ⟨nx, rt, ex, bk, ct⟩ s h := ht _ hu
theorem i_asg (q : le s h (fun c fs h' => ex c fs s h') fun x h1 => g x s h1 ex nx) : lAsg le g ⟨nx, rt, ex, bk, ct⟩ s h := q
instance st_i_asg  : Stp (lAsg le g ⟨nx, rt, ex, bk, ct⟩ s h) (le s h (fun c fs h' => ex c fs s h') fun x h1 => g x s h1 ex nx) := ⟨i_asg⟩
theorem i_ret (q : le s h (fun c fs h' => ex c fs s h') rt) : lRet le ⟨nx, rt, ex, bk, ct⟩ s h := q
instance st_i_ret  : Stp (lRet le ⟨nx, rt, ex, bk, ct⟩ s h) (le s h (fun c fs h' => ex c fs s h') rt) := ⟨i_ret⟩
theorem i_retN (q : rt .non h) : lRetN ⟨nx, rt, ex, bk, ct⟩ s h := q
instance st_i_retN  : Stp (lRetN ⟨nx, rt, ex, bk, ct⟩ s h) (rt .non h) := ⟨i_retN⟩
theorem i_drop (q : le s h (fun c fs h' => ex c fs s h') fun _ h1 => nx s h1) : lDrop le ⟨nx, rt, ex, bk, ct⟩ s h := q
instance st_i_drop  : Stp (lDrop le ⟨nx, rt, ex, bk, ct⟩ s h) (le s h (fun c fs h' => ex c fs s h') fun _ h1 => nx s h1) := ⟨i_drop⟩
theorem i_nx (q : nx s h) : lNx ⟨nx, rt, ex, bk, ct⟩ s h := q
instance st_i_nx  : Stp (lNx ⟨nx, rt, ex, bk, ct⟩ s h) (nx s h) := ⟨i_nx⟩
theorem i_brk (q : bk s h) : lBrk ⟨nx, rt, ex, bk, ct⟩ s h := q
instance st_i_brk  : Stp (lBrk ⟨nx, rt, ex, bk, ct⟩ s h) (bk s h) := ⟨i_brk⟩
theorem i_cnt (q : ct s h) : lCnt ⟨nx, rt, ex, bk, ct⟩ s h := q
instance st_i_cnt  : Stp (lCnt ⟨nx, rt, ex, bk, ct⟩ s h) (ct s h) := ⟨i_cnt⟩
theorem i_ifS (q : lt s h (fun c fs h' => ex c fs s h') fun b h1 => if b = true then t ⟨nx, rt, ex, bk, ct⟩ s h1 else u ⟨nx, rt, ex, bk, ct⟩ s h1) : lIfS lt t u ⟨nx, rt, ex, bk, ct⟩ s h := q
instance st_i_ifS  : Stp (lIfS lt t u ⟨nx, rt, ex, bk, ct⟩ s h) (lt s h (fun c fs h' => ex c fs s h') fun b h1 => if b = true then t ⟨nx, rt, ex, bk, ct⟩ s h1 else u ⟨nx, rt, ex, bk, ct⟩ s h1) := ⟨i_ifS⟩
theorem fn_go (q : t ⟨(fnE E L).nx, (fnE E L).rt, (fnE E L).ex, (fnE E L).bk, (fnE E L).ct⟩ s h) : t (fnE E L) s h := q
theorem i_name {i : Nat} (e : s.set i (some x) = s') (q : LN s' h) : lgName i x s h SE LN := by subst e; exact q
theorem i_gtup (e : xs.length = n) (q : gs xs s h SE LN) : lgTup n gs (.tup xs) s h SE LN := ⟨e, q⟩
theorem i_gcons (q : g x s h SE fun s' h' => gs xs s' h' SE LN) : lgCons g gs (x :: xs) s h SE LN := q
instance st_i_gcons  : Stp (lgCons g gs (x :: xs) s h SE LN) (g x s h SE fun s' h' => gs xs s' h' SE LN) := ⟨i_gcons⟩
theorem i_gnil (q : LN s h) : lgNil [] s h SE LN := ⟨rfl, q⟩
instance st_i_gnil  : Stp (lgNil [] s h SE LN) (LN s h) := ⟨i_gnil⟩
theorem i_gsub (q : lo s h (fun c fs h' => SE c fs s h') fun o h1 => li s h1 (fun c fs h' => SE c fs s h') fun i h2 => gSet o i x h2 fun h3 => LN s h3) : lgSub lo li x s h SE LN := q
instance st_i_gsub  : Stp (lgSub lo li x s h SE LN) (lo s h (fun c fs h' => SE c fs s h') fun o h1 => li s h1 (fun c fs h' => SE c fs s h') fun i h2 => gSet o i x h2 fun h3 => LN s h3) := ⟨i_gsub⟩
theorem i_setL {m : Int} (e : h a = some (.lst xs)) (ej : ixN xs.length m = some k) (q : LP (up h a (.lst (xs.set k x)))) : gSet (.ref a) (.int m) x h LP := by
  show (match h a with
    | some (.lst xs) => _
    | some (.dic kvs) => _
    | _ => False)
  rw [e]
  show (match ixN xs.length m with
    | some j => LP (up h a (.lst (xs.set j x)))
    | none => False)
  rw [ej]
  exact q
theorem i_setD {m : Key} (e : h a = some (.dic kvs)) (ej : keyOf v = some m) (hz : kvs.length < 100000) (q : LP (up h a (.dic (dput kvs m x)))) : gSet (.ref a) v x h LP := by
  show (match h a with
    | some (.lst xs) => _
    | some (.dic kvs) => _
    | _ => False)
  rw [e]
  show (match keyOf v with
    | some k => kvs.length < 100000 ∧ LP (up h a (.dic (dput kvs k x)))
    | none => False)
  rw [ej]
  exact ⟨hz, q⟩
def gPar (i j : Nat) (s : LS) (nx : LS → LH → Prop) : List LV → LH → Prop := fun xs h1 => match xs with
  | [x, y] => nx ((s.set i (some x)).set j (some y)) h1
  | _ => False
theorem i_par {i j : Nat} (q : lr s h (fun c fs h' => ex c fs s h') fun xs h1 => gPar i j s nx xs h1) : lPar i j lr ⟨nx, rt, ex, bk, ct⟩ s h := q
instance st_i_par {i j : Nat} : Stp (lPar i j lr ⟨nx, rt, ex, bk, ct⟩ s h) (lr s h (fun c fs h' => ex c fs s h') fun xs h1 => gPar i j s nx xs h1) := ⟨i_par⟩
theorem i_parG {i j : Nat} {s2 : LS} (e : (s.set i (some x)).set j (some y) = s2) (q : nx s2 h) : gPar i j s nx [x, y] h := by subst e; exact q
theorem i_var {i : Nat} (e : s[i]? = some (some v)) (q : L v h) : lVar i s h E L := by
  unfold lVar
  rw [e]
  exact q
theorem i_c (q : L v h) : lC v s h E L := q
instance st_i_c  : Stp (lC v s h E L) (L v h) := ⟨i_c⟩
theorem i_op (q : la s h E fun x h1 => lb s h1 E fun y h2 => G x y h2 L) : lOp G la lb s h E L := q
instance st_i_op  : Stp (lOp G la lb s h E L) (la s h E fun x h1 => lb s h1 E fun y h2 => G x y h2 L) := ⟨i_op⟩
theorem i_test (q : la s h E fun x h1 => match x with
  | .bl k => LB k h1
  | _ => False) : lTest la s h E LB := q
instance st_i_test  : Stp (lTest la s h E LB) (la s h E fun x h1 => match x with
  | .bl k => LB k h1
  | _ => False) := ⟨i_test⟩
theorem i_un {g1 : LV → LH → LK → Prop} (q : la s h E fun x h1 => g1 x h1 L) : lUn g1 la s h E L := q
instance st_i_un {g1 : LV → LH → LK → Prop} : Stp (lUn g1 la s h E L) (la s h E fun x h1 => g1 x h1 L) := ⟨i_un⟩
theorem i_neg (q : L (.int (-i)) h) : gNeg (.int i) h L := q
instance st_i_neg  : Stp (gNeg (.int i) h L) (L (.int (-i)) h) := ⟨i_neg⟩
theorem i_chain {g g' : LR2} (q : la s h E fun x h1 => lb s h1 E fun y h2 => g x y h2 fun z h3 => gChn z (lc s h3 E fun w h4 => g' y w h4 L) (L (.bl false) h3)) : lChain g g' la lb lc s h E L := by
  refine cast (congrArg (fun K => la s h E K) (funext fun x => funext fun h1 => congrArg (fun K => lb s h1 E K) (funext fun y => funext fun h2 => congrArg (fun K => g x y h2 K) (funext fun z => funext fun h3 => ?_)))) q
  unfold gChn
  cases z <;> first | rfl | (rename_i b; cases b <;> rfl)
instance st_i_chain {g g' : LR2} : Stp (lChain g g' la lb lc s h E L) (la s h E fun x h1 => lb s h1 E fun y h2 => g x y h2 fun z h3 => gChn z (lc s h3 E fun w h4 => g' y w h4 L) (L (.bl false) h3)) := ⟨i_chain⟩
theorem i_chnT {A B : Prop} (q : A) : gChn (.bl true) A B := q
theorem i_chnF {A B : Prop} (q : B) : gChn (.bl false) A B := q
theorem i_chnD {p A B : Prop} [Decidable p] (h1 : p → A) (h2 : ¬p → B) : gChn (.bl (decide p)) A B := by
  by_cases hp : p
  · rw [decide_eq_true hp]; exact h1 hp
  · rw [decide_eq_false hp]; exact h2 hp
theorem i_chnN {p A B : Prop} [Decidable p] (h1 : ¬p → A) (h2 : p → B) : gChn (.bl (!decide p)) A B := by
  by_cases hp : p
  · rw [decide_eq_true hp]; exact h2 hp
  · rw [decide_eq_false hp]; exact h1 hp
theorem i_chnNF {A B : Prop} (q : A) : gChn (.bl (!false)) A B := q
theorem i_chnNT {A B : Prop} (q : B) : gChn (.bl (!true)) A B := q
theorem i_chnA {b : Bool} {A B : Prop} (h1 : b = true → A) (h2 : b = false → B) : gChn (.bl b) A B := by
  cases b
  · exact h2 rfl
  · exact h1 rfl
theorem i_and (q : lt s h E fun c h1 => if c = true then lu s h1 E LB else LB false h1) : lAnd lt lu s h E LB := q
instance st_i_and  : Stp (lAnd lt lu s h E LB) (lt s h E fun c h1 => if c = true then lu s h1 E LB else LB false h1) := ⟨i_and⟩
theorem i_or (q : lt s h E fun c h1 => if c = true then LB true h1 else lu s h1 E LB) : lOr lt lu s h E LB := q
instance st_i_or  : Stp (lOr lt lu s h E LB) (lt s h E fun c h1 => if c = true then LB true h1 else lu s h1 E LB) := ⟨i_or⟩
theorem i_not (q : lt s h E fun c h1 => LB (!c) h1) : lNot lt s h E LB := q
instance st_i_not  : Stp (lNot lt s h E LB) (lt s h E fun c h1 => LB (!c) h1) := ⟨i_not⟩
theorem i_andV (q : la s h E fun x h1 => gChn x (lb s h1 E L) (L (.bl false) h1)) : lAndV la lb s h E L := by
  refine cast (congrArg (fun K => la s h E K) (funext fun x => funext fun h1 => ?_)) q
  unfold gChn
  cases x <;> first | rfl | (rename_i b; cases b <;> rfl)
instance st_i_andV  : Stp (lAndV la lb s h E L) (la s h E fun x h1 => gChn x (lb s h1 E L) (L (.bl false) h1)) := ⟨i_andV⟩
theorem i_orV (q : la s h E fun x h1 => gChn x (L (.bl true) h1) (lb s h1 E L)) : lOrV la lb s h E L := by
  refine cast (congrArg (fun K => la s h E K) (funext fun x => funext fun h1 => ?_)) q
  unfold gChn
  cases x <;> first | rfl | (rename_i b; cases b <;> rfl)
instance st_i_orV  : Stp (lOrV la lb s h E L) (la s h E fun x h1 => gChn x (L (.bl true) h1) (lb s h1 E L)) := ⟨i_orV⟩
theorem i_notV (q : la s h E fun x h1 => match x with
  | .bl k => L (.bl (!k)) h1
  | _ => False) : lNotV la s h E L := q
instance st_i_notV  : Stp (lNotV la s h E L) (la s h E fun x h1 => match x with
  | .bl k => L (.bl (!k)) h1
  | _ => False) := ⟨i_notV⟩
theorem i_if (q : lt s h E fun c h1 => if c = true then la s h1 E L else lb s h1 E L) : lIf lt la lb s h E L := q
instance st_i_if  : Stp (lIf lt la lb s h E L) (lt s h E fun c h1 => if c = true then la s h1 E L else lb s h1 E L) := ⟨i_if⟩
theorem i_tru (q : la s h E fun x h1 => gTru x h1 LB) : lTru la s h E LB := q
instance st_i_tru  : Stp (lTru la s h E LB) (la s h E fun x h1 => gTru x h1 LB) := ⟨i_tru⟩
theorem i_tru_non (q : LB false h) : gTru .non h LB := q
instance st_i_tru_non  : Stp (gTru .non h LB) (LB false h) := ⟨i_tru_non⟩
theorem i_tru_bl {b : Bool} (q : LB b h) : gTru (.bl b) h LB := q
instance st_i_tru_bl {b : Bool} : Stp (gTru (.bl b) h LB) (LB b h) := ⟨i_tru_bl⟩
theorem i_tru_int (q : LB (i != 0) h) : gTru (.int i) h LB := q
instance st_i_tru_int  : Stp (gTru (.int i) h LB) (LB (i != 0) h) := ⟨i_tru_int⟩
theorem i_tru_str (e : z.length ≤ sizeLine) (q : LB ((z.length : Int) != 0) h) : gTru (.str z) h LB := ⟨e, q⟩
theorem i_tru_tup (q : LB (!xs.isEmpty) h) : gTru (.tup xs) h LB := q
theorem i_tru_rl (q : LB (!xs.isEmpty) h) : gTru (.rl xs) h LB := q
theorem i_tru_lst (e : h a = some (.lst xs)) (q : LB (!xs.isEmpty) h) : gTru (.ref a) h LB := by
  show (match h a with
    | some (.lst xs) => LB (!xs.isEmpty) h
    | some (.dic xs) => LB (!xs.isEmpty) h
    | _ => False)
  rw [e]; exact q
theorem i_tru_dic (e : h a = some (.dic kvs)) (q : LB (!kvs.isEmpty) h) : gTru (.ref a) h LB := by
  show (match h a with
    | some (.lst xs) => LB (!xs.isEmpty) h
    | some (.dic xs) => LB (!xs.isEmpty) h
    | _ => False)
  rw [e]; exact q
theorem i_nil (q : LA [] h) : lNil s h E LA := q
instance st_i_nil  : Stp (lNil s h E LA) (LA [] h) := ⟨i_nil⟩
theorem i_cons (q : le s h E fun x h1 => lr s h1 E fun xs h2 => LA (x :: xs) h2) : lCons le lr s h E LA := q
instance st_i_cons  : Stp (lCons le lr s h E LA) (le s h E fun x h1 => lr s h1 E fun xs h2 => LA (x :: xs) h2) := ⟨i_cons⟩
theorem i_tup (q : lr s h E fun xs h1 => xs.length ≤ 100000 ∧ L (.tup xs) h1) : lTup lr s h E L := q
instance st_i_tup  : Stp (lTup lr s h E L) (lr s h E fun xs h1 => xs.length ≤ 100000 ∧ L (.tup xs) h1) := ⟨i_tup⟩
theorem i_lst (q : lr s h E fun xs h1 => xs.length ≤ 100000 ∧ ∀ p, h1 p = none → L (.ref p) (up h1 p (.lst xs))) : lLst lr s h E L := q
/-- arithmetic -/
theorem i_int {F : Int → Int → Int} (q : L (.int (F i j)) h) : gInt F (.int i) (.int j) h L := q
instance st_i_int {F : Int → Int → Int} : Stp (gInt F (.int i) (.int j) h L) (L (.int (F i j)) h) := ⟨i_int⟩
theorem i_intC {P : Int → Int → Prop} {F : Int → Int → Int} (e : P i j) (q : L (.int (F i j)) h) : gIntC P F (.int i) (.int j) h L := ⟨e, q⟩
theorem i_cmp {F : Int → Int → Bool} (q : L (.bl (F i j)) h) : gCmp F (.int i) (.int j) h L := q
instance st_i_cmp {F : Int → Int → Bool} : Stp (gCmp F (.int i) (.int j) h L) (L (.bl (F i j)) h) := ⟨i_cmp⟩
theorem i_add (q : L (.int (i + j)) h) : gAdd (.int i) (.int j) h L := q
instance st_i_add  : Stp (gAdd (.int i) (.int j) h L) (L (.int (i + j)) h) := ⟨i_add⟩
theorem i_add_str (e : z.length + w.length ≤ sizeLine) (q : L (.str (z ++ w)) h) : gAdd (.str z) (.str w) h L := ⟨e, q⟩
theorem i_add_tup (e : xs.length + ys.length ≤ 100000) (q : L (.tup (xs ++ ys)) h) : gAdd (.tup xs) (.tup ys) h L := ⟨e, q⟩
theorem i_add_lst (ea : h a = some (.lst xs)) (eb : h b = some (.lst ys)) (e : xs.length + ys.length ≤ 100000) (q : ∀ p, h p = none → L (.ref p) (up h p (.lst (xs ++ ys)))) : gAdd (.ref a) (.ref b) h L := by
  show (match h a, h b with
    | some (.lst xs), some (.lst ys) => xs.length + ys.length ≤ 100000 ∧ ∀ p, h p = none → L (.ref p) (up h p (.lst (xs ++ ys)))
    | _, _ => False)
  rw [ea, eb]; exact ⟨e, q⟩
theorem i_mul (e : (-(2 ^ 64) < i ∧ i < 2 ^ 64) ∨ (-(2 ^ 64) < j ∧ j < 2 ^ 64)) (q : L (.int (i * j)) h) : gMul (.int i) (.int j) h L := ⟨e, q⟩
theorem i_rep (ea : h a = some (.lst xs)) (e : -(2 ^ 62) ≤ j ∧ j < 2 ^ 62 ∧ xs.length * j.toNat ≤ 100000) (q : ∀ p, h p = none → L (.ref p) (up h p (.lst (List.replicate j.toNat xs).flatten))) : gMul (.ref a) (.int j) h L := by
  show (match h a with
    | some (.lst xs) => -(2 ^ 62) ≤ j ∧ j < 2 ^ 62 ∧ xs.length * j.toNat ≤ 100000 ∧ ∀ p, h p = none → L (.ref p) (up h p (.lst (List.replicate j.toNat xs).flatten))
    | _ => False)
  rw [ea]; exact ⟨e.1, e.2.1, e.2.2, q⟩
theorem i_eq_int (q : L (.bl (decide (i = j))) h) : gEqW id (.int i) (.int j) h L := q
theorem i_eq_str (q : L (.bl (decide (z = w))) h) : gEqW id (.str z) (.str w) h L := q
theorem i_eq_bl {z w : Bool} (q : L (.bl (decide (z = w))) h) : gEqW id (.bl z) (.bl w) h L := q
theorem i_ne_int (q : L (.bl (!decide (i = j))) h) : gEqW (!·) (.int i) (.int j) h L := q
theorem i_ne_str (q : L (.bl (!decide (z = w))) h) : gEqW (!·) (.str z) (.str w) h L := q
theorem i_ne_bl {z w : Bool} (q : L (.bl (!decide (z = w))) h) : gEqW (!·) (.bl z) (.bl w) h L := q
/-- == on the rest, by data -/
theorem i_eqD {F : Bool → Bool} {d e : PyData} (hx : toD h 8 x = some d) (hy : toD h 8 y = some e) (sd : SeqAt.shaped d = true) (se : SeqAt.shaped e = true) (q : L (.bl (F (PyData.eqv d e))) h)
    (hn : (match x, y with
      | .int _, .int _ => false
      | .str _, .str _ => false
      | .bl _, .bl _ => false
      | .non, .non => false
      | _, _ => true) = true := by rfl) : gEqW F x y h L := by
  unfold gEqW
  split <;> first | (cases hn; done) | skip
  rw [hx, hy]
  exact ⟨sd, se, q⟩
theorem i_is_nn {F : Bool → Bool} (q : L (.bl (F true)) h) : gIs F .non .non h L := q
theorem i_is_n {F : Bool → Bool} (q : L (.bl (F false)) h) (hn : (match x with
      | .non => false
      | _ => true) = true := by rfl) : gIs F x .non h L := by
  unfold gIs
  cases x <;> first | (cases hn; done) | exact q
theorem i_is_bl {F : Bool → Bool} {z w : Bool} (q : L (.bl (F (decide (z = w)))) h) : gIs F (.bl z) (.bl w) h L := q
theorem i_is_blI {z w : Bool} (q : L (.bl (decide (z = w))) h) : gIs id (.bl z) (.bl w) h L := q
theorem i_is_blN {z w : Bool} (q : L (.bl (!decide (z = w))) h) : gIs (!·) (.bl z) (.bl w) h L := q
theorem i_is_nnI (q : L (.bl true) h) : gIs id .non .non h L := q
theorem i_is_nnN (q : L (.bl false) h) : gIs (!·) .non .non h L := q
theorem i_is_nI (q : L (.bl false) h) (hn : (match x with
      | .non => false
      | _ => true) = true := by rfl) : gIs id x .non h L := i_is_n q hn
theorem i_is_nN (q : L (.bl true) h) (hn : (match x with
      | .non => false
      | _ => true) = true := by rfl) : gIs (!·) x .non h L := i_is_n q hn
/-- subscripts -/
theorem i_ix_tup (e : atI xs i = some v) (q : L v h) : gIx (.tup xs) (.int i) h L := by
  show (match atI xs i with
      | some v => L v h
      | none => False)
  rw [e]; exact q
theorem i_ix_rl (e : atI xs i = some v) (q : L v h) : gIx (.rl xs) (.int i) h L := by
  show (match atI xs i with
      | some v => L v h
      | none => False)
  rw [e]; exact q
theorem i_ix_lst (ea : h a = some (.lst xs)) (e : atI xs i = some v) (q : L v h) : gIx (.ref a) (.int i) h L := by
  unfold gIx
  dsimp only
  rw [ea]
  show (match atI xs i with
      | some v => L v h
      | none => False)
  rw [e]; exact q
theorem i_ix_dic {m : Key} (ea : h a = some (.dic kvs)) (ek : keyOf y = some m) (e : dget kvs m = some v) (q : L v h) : gIx (.ref a) y h L := by
  unfold gIx
  dsimp only
  rw [ea]
  dsimp only
  rw [ek]
  dsimp only
  rw [e]; exact q
theorem i_ix_fdi {m : Key} {fz : Obj × List (Key × V)} (ea : h a = some (.fdi fz kvs)) (ek : keyOf y = some m) (e : dget kvs m = some v) (q : L v h) : gIx (.ref a) y h L := by
  unfold gIx
  dsimp only
  rw [ea]
  dsimp only
  rw [ek]
  dsimp only
  rw [e]; exact q
theorem i_ix_str {ch : Nat} (e : atI z.cps.toList i = some ch) (hz : z.length ≤ sizeLine) (q : L (.str ⟨#[ch]⟩) h) : gIx (.str z) (.int i) h L := by
  show (match atI z.cps.toList i with
      | some c => z.length ≤ sizeLine ∧ L (.str ⟨#[c]⟩) h
      | none => False)
  rw [e]; exact ⟨hz, q⟩
theorem atI_nat {α : Type} {xs : List α} {i : Int} (h0 : 0 ≤ i) (h1 : i < xs.length) : atI xs i = xs[i.toNat]? := by
  unfold atI ixN
  rw [if_pos h0, if_pos (by omega)]
  rfl
theorem atI_lit {α : Type} {xs : List α} {n : Nat} {v : α} (e : xs[n]? = some v) : atI xs (@OfNat.ofNat Int n (@instOfNat n)) = some v := by
  have hl := (List.getElem?_eq_some_iff.mp e).1
  have e2 : (@OfNat.ofNat Int n (@instOfNat n)) = (n : Int) := rfl
  rw [e2, atI_nat (by omega) (by omega)]
  exact e
theorem i_ix_tupN {n : Nat} (e : xs[n]? = some v) (q : L v h) : gIx (.tup xs) (.int (@OfNat.ofNat Int n (@instOfNat n))) h L := i_ix_tup (atI_lit e) q
theorem i_ix_rlN {n : Nat} (e : xs[n]? = some v) (q : L v h) : gIx (.rl xs) (.int (@OfNat.ofNat Int n (@instOfNat n))) h L := i_ix_rl (atI_lit e) q
theorem i_ix_lstN {n : Nat} (ea : h a = some (.lst xs)) (e : xs[n]? = some v) (q : L v h) : gIx (.ref a) (.int (@OfNat.ofNat Int n (@instOfNat n))) h L := i_ix_lst ea (atI_lit e) q
theorem i_ix_tupM {n : Nat} (e : atI xs (-(@OfNat.ofNat Int n (@instOfNat n))) = some v) (q : L v h) : gIx (.tup xs) (.int (-(@OfNat.ofNat Int n (@instOfNat n)))) h L := i_ix_tup e q
theorem i_ix_lstM {n : Nat} (ea : h a = some (.lst xs)) (e : atI xs (-(@OfNat.ofNat Int n (@instOfNat n))) = some v) (q : L v h) : gIx (.ref a) (.int (-(@OfNat.ofNat Int n (@instOfNat n)))) h L := i_ix_lst ea e q
theorem i_setLN {n : Nat} (e : h a = some (.lst xs)) (ej : n < xs.length) (q : LP (up h a (.lst (xs.set n x)))) : gSet (.ref a) (.int (@OfNat.ofNat Int n (@instOfNat n))) x h LP := by
  refine i_setL e (k := n) ?_ q
  have e2 : (@OfNat.ofNat Int n (@instOfNat n)) = (n : Int) := rfl
  rw [e2]
  unfold ixN
  rw [if_pos (by omega), if_pos (by omega)]
  rfl
/-- whichever item it is -/
theorem i_ix_any (M : LV → Prop) (ea : h a = some (.lst xs)) (h0 : 0 ≤ i) (h1 : i < xs.length) (hM : ∀ x ∈ xs, M x) (q : ∀ x, M x → L x h) : gIx (.ref a) (.int i) h L := by
  have hl : i.toNat < xs.length := by omega
  exact i_ix_lst ea (v := xs[i.toNat]) (by rw [atI_nat h0 h1]; exact List.getElem?_eq_getElem hl) (q _ (hM _ (List.getElem_mem hl)))
theorem i_ix_anyT (M : LV → Prop) (h0 : 0 ≤ i) (h1 : i < xs.length) (hM : ∀ x ∈ xs, M x) (q : ∀ x, M x → L x h) : gIx (.tup xs) (.int i) h L := by
  have hl : i.toNat < xs.length := by omega
  exact i_ix_tup (v := xs[i.toNat]) (by rw [atI_nat h0 h1]; exact List.getElem?_eq_getElem hl) (q _ (hM _ (List.getElem_mem hl)))
/-- slices -/
theorem i_sl (q : le s h E fun x h1 => ll s h1 E fun lo h2 => lh s h2 E fun hi h3 => gSl x lo hi h3 L) : lSl le ll lh s h E L := q
instance st_i_sl  : Stp (lSl le ll lh s h E L) (le s h E fun x h1 => ll s h1 E fun lo h2 => lh s h2 E fun hi h3 => gSl x lo hi h3 L) := ⟨i_sl⟩
theorem i_nop (q : LO1 none h) : lNoP s h E LO1 := q
instance st_i_nop  : Stp (lNoP s h E LO1) (LO1 none h) := ⟨i_nop⟩
theorem i_part (q : le s h E fun x h1 => match x with
  | .int i => LO1 (some i) h1
  | _ => False) : lPart le s h E LO1 := q
instance st_i_part  : Stp (lPart le s h E LO1) (le s h E fun x h1 => match x with
  | .int i => LO1 (some i) h1
  | _ => False) := ⟨i_part⟩
theorem i_sl_tup {p1 p2 : Option Int} (q : L (.tup (cutL xs p1 p2)) h) : gSl (.tup xs) p1 p2 h L := q
instance st_i_sl_tup {p1 p2 : Option Int} : Stp (gSl (.tup xs) p1 p2 h L) (L (.tup (cutL xs p1 p2)) h) := ⟨i_sl_tup⟩
theorem i_sl_rl {p1 p2 : Option Int} (q : ∀ p, h p = none → L (.ref p) (up h p (.lst (cutL xs p1 p2)))) : gSl (.rl xs) p1 p2 h L := q
theorem i_sl_str {p1 p2 : Option Int} (e : z.length ≤ sizeLine) (q : L (.str (cutS z p1 p2)) h) : gSl (.str z) p1 p2 h L := ⟨e, q⟩
theorem i_sl_lst {p1 p2 : Option Int} (e : h a = some (.lst xs)) (q : ∀ p, h p = none → L (.ref p) (up h p (.lst (cutL xs p1 p2)))) : gSl (.ref a) p1 p2 h L := by
  show (match h a with
    | some (.lst xs) => ∀ p, h p = none → L (.ref p) (up h p (.lst (cutL xs p1 p2)))
    | _ => False)
  rw [e]; exact q
/-- calls -/
theorem i_cb (q : lr s h E fun xs h1 => C xs h1 L) : lCB C lr s h E L := q
instance st_i_cb  : Stp (lCB C lr s h E L) (lr s h E fun xs h1 => C xs h1 L) := ⟨i_cb⟩
theorem i_call {ls : LSp} (q : lr s h E fun xs h1 => ls xs h1 E L) : lCall ls lr s h E L := q
instance st_i_call {ls : LSp} : Stp (lCall ls lr s h E L) (lr s h E fun xs h1 => ls xs h1 E L) := ⟨i_call⟩
theorem i_len_tup (q : L (.int xs.length) h) : gLen [.tup xs] h L := q
instance st_i_len_tup  : Stp (gLen [.tup xs] h L) (L (.int xs.length) h) := ⟨i_len_tup⟩
theorem i_len_rl (q : L (.int xs.length) h) : gLen [.rl xs] h L := q
instance st_i_len_rl  : Stp (gLen [.rl xs] h L) (L (.int xs.length) h) := ⟨i_len_rl⟩
theorem i_len_str (e : z.length ≤ sizeLine) (q : L (.int z.length) h) : gLen [.str z] h L := ⟨e, q⟩
theorem i_len_lst (e : h a = some (.lst xs)) (q : L (.int xs.length) h) : gLen [.ref a] h L := by
  show (match h a with
    | some (.lst ys) => L (.int ys.length) h
    | some (.dic ys) => L (.int ys.length) h
    | _ => False)
  rw [e]; exact q
theorem i_len_dic (e : h a = some (.dic kvs)) (q : L (.int kvs.length) h) : gLen [.ref a] h L := by
  show (match h a with
    | some (.lst ys) => L (.int ys.length) h
    | some (.dic ys) => L (.int ys.length) h
    | _ => False)
  rw [e]; exact q
theorem i_abs (q : L (.int (if i < 0 then -i else i)) h) : gAbs [.int i] h L := q
instance st_i_abs  : Stp (gAbs [.int i] h L) (L (.int (if i < 0 then -i else i)) h) := ⟨i_abs⟩
theorem i_II {F : Int → Int → Int} (q : L (.int (F i j)) h) : gII F [.int i, .int j] h L := q
instance st_i_II {F : Int → Int → Int} : Stp (gII F [.int i, .int j] h L) (L (.int (F i j)) h) := ⟨i_II⟩
theorem i_int1 (q : L (.int i) h) : gInt1 [.int i] h L := q
instance st_i_int1  : Stp (gInt1 [.int i] h L) (L (.int i) h) := ⟨i_int1⟩
theorem i_int1b {b : Bool} (q : L (.int (if b then 1 else 0)) h) : gInt1 [.bl b] h L := q
instance st_i_int1b {b : Bool} : Stp (gInt1 [.bl b] h L) (L (.int (if b then 1 else 0)) h) := ⟨i_int1b⟩
theorem i_list_tup (q : ∀ p, h p = none → L (.ref p) (up h p (.lst xs))) : gList [.tup xs] h L := q
theorem i_list_rl (q : ∀ p, h p = none → L (.ref p) (up h p (.lst xs))) : gList [.rl xs] h L := q
theorem i_list_lst (e : h a = some (.lst xs)) (q : ∀ p, h p = none → L (.ref p) (up h p (.lst xs))) : gList [.ref a] h L := by
  show (match h a with
    | some (.lst ys) => ∀ p, h p = none → L (.ref p) (up h p (.lst ys))
    | _ => False)
  rw [e]; exact q
theorem i_tuple_tup (q : L (.tup xs) h) : gTuple [.tup xs] h L := q
instance st_i_tuple_tup  : Stp (gTuple [.tup xs] h L) (L (.tup xs) h) := ⟨i_tuple_tup⟩
theorem i_tuple_rl (q : L (.tup xs) h) : gTuple [.rl xs] h L := q
instance st_i_tuple_rl  : Stp (gTuple [.rl xs] h L) (L (.tup xs) h) := ⟨i_tuple_rl⟩
theorem i_tuple_lst (e : h a = some (.lst xs)) (q : L (.tup xs) h) : gTuple [.ref a] h L := by
  show (match h a with
    | some (.lst ys) => L (.tup ys) h
    | _ => False)
  rw [e]; exact q
theorem lstOf_lst (e : h a = some (.lst xs)) : lstOf h (.ref a) = some xs := by unfold lstOf; dsimp only; rw [e]
theorem seqOf_lst (e : h a = some (.lst xs)) : seqOf h (.ref a) = some xs := by unfold seqOf; dsimp only; rw [e]
theorem i_sum {ns : List Int} (e : lstOf h x = some (ns.map .int)) (q : L (.int ns.sum) h) : gSum [x] h L := by
  show (match lstOf h x with
    | some ys => (match intsOf ys with
      | some ns => L (.int ns.sum) h
      | none => False)
    | none => False)
  rw [e]
  dsimp only
  rw [intsOf_map]
  exact q
theorem i_bls {F : List Bool → Bool} {bs : List Bool} (e : lstOf h x = some (bs.map .bl)) (q : L (.bl (F bs)) h) : gBls F [x] h L := by
  show (match lstOf h x with
    | some ys => (match blsOf ys with
      | some ns => L (.bl (F ns)) h
      | none => False)
    | none => False)
  rw [e]
  dsimp only
  rw [blsOf_map]
  exact q
theorem i_maxL {le1 : Int → Int → Prop} {ns : List Int} (e : lstOf h x = some (ns.map .int)) (hp : 0 < ns.length) (q : ∀ m, m ∈ ns → (∀ y, y ∈ ns → le1 y m) → L (.int m) h) : gMaxL le1 [x] h L := by
  show (match lstOf h x with
    | some ys => (match intsOf ys with
      | some ns => 0 < ns.length ∧ ∀ m, m ∈ ns → (∀ y, y ∈ ns → le1 y m) → L (.int m) h
      | none => False)
    | none => False)
  rw [e]
  dsimp only
  rw [intsOf_map]
  exact ⟨hp, q⟩
theorem i_divmod (e : CDiv i j) (q : L (.tup [.int (i / j), .int (i % j)]) h) : gDivmod [.int i, .int j] h L := ⟨e, q⟩
theorem i_isi1 {A B : String} (e : lty h x = some A) (hb : B ∈ tyNames ∧ B ≠ "NoneType") (q : L (.bl (isiT A B)) h) : gIsi [x, .ty B] h L := by
  show (match lty h x with
    | some a => B ∈ tyNames ∧ B ≠ "NoneType" ∧ L (.bl (isiT a B)) h
    | none => False)
  rw [e]; exact ⟨hb.1, hb.2, q⟩
theorem i_isiN {A : String} {Bs : List String} (e : lty h x = some A) (et : tysOf xs = some Bs) (hb : ∀ b ∈ Bs, b ∈ tyNames ∧ b ≠ "NoneType") (q : L (.bl (Bs.any (isiT A))) h) : gIsi [x, .tup xs] h L := by
  show (match lty h x, tysOf xs with
    | some a, some bs => (∀ b ∈ bs, b ∈ tyNames ∧ b ≠ "NoneType") ∧ L (.bl (bs.any (isiT a))) h
    | _, _ => False)
  rw [e, et]; exact ⟨hb, q⟩
/-- methods of lists, texts -/
theorem i_bm {T : String} (q : lo s h E fun x h1 => lTy T x h1 ∧ lr s h1 E fun xs h2 => GM x xs h2 L) : lBM T GM lo lr s h E L := q
instance st_i_bm {T : String} : Stp (lBM T GM lo lr s h E L) (lo s h E fun x h1 => lTy T x h1 ∧ lr s h1 E fun xs h2 => GM x xs h2 L) := ⟨i_bm⟩
theorem i_ty_lst (e : h a = some (.lst xs)) : lTy "list" (.ref a) h := by unfold lTy; dsimp only; rw [e]
theorem i_ty_dic (e : h a = some (.dic kvs)) : lTy "dict" (.ref a) h := by unfold lTy; dsimp only; rw [e]
theorem i_lm {F : List LV → List LV → Option (List LV × LV)} (e : h a = some (.lst ys)) (ef : F ys xs = some (zs, v)) (q : L v (up h a (.lst zs))) : gLm F (.ref a) xs h L := by
  unfold gLm
  dsimp only
  rw [e]
  dsimp only
  rw [ef]
  exact q
theorem i_append (e : h a = some (.lst ys)) (hz : ys.length < 100000) (q : L .non (up h a (.lst (ys ++ [x])))) : gAppend (.ref a) [x] h L := i_lm e (by dsimp only; rw [if_pos hz]) q
theorem i_reverse (e : h a = some (.lst ys)) (q : L .non (up h a (.lst ys.reverse))) : gReverse (.ref a) [] h L := i_lm e rfl q
theorem i_clear (e : h a = some (.lst ys)) (q : L .non (up h a (.lst []))) : gClear (.ref a) [] h L := i_lm e rfl q
theorem i_pop0 (e : h a = some (.lst ys)) (ey : ys[ys.length - 1]? = some y) (q : L y (up h a (.lst ys.dropLast))) : gPop0 (.ref a) [] h L := i_lm e (by dsimp only; rw [ey]) q
theorem i_pop1 (e : h a = some (.lst ys)) (hi : 0 ≤ i ∧ i < 100000) (ey : ys[i.toNat]? = some y) (q : L y (up h a (.lst (ys.eraseIdx i.toNat)))) : gPop1 (.ref a) [.int i] h L := i_lm e (by dsimp only; rw [if_pos hi, ey]) q
theorem i_insert (e : h a = some (.lst ys)) (hi : 0 ≤ i ∧ i < 100000 ∧ ys.length < 100000) (q : L .non (up h a (.lst (ys.take i.toNat ++ [y] ++ ys.drop i.toNat)))) : gInsert (.ref a) [.int i, y] h L := i_lm e (by dsimp only; rw [if_pos hi]) q
theorem i_extend (e : h a = some (.lst ys)) (e2 : h b = some (.lst zs)) (hz : ys.length + zs.length ≤ 100000) (q : L .non (up h a (.lst (ys ++ zs)))) : gExtend (.ref a) [.ref b] h L := by
  unfold gExtend
  dsimp only
  rw [e, e2]
  exact ⟨hz, q⟩
/-- own objects -/
theorem i_fld (q : lo s h E fun x h1 => gFld c f x h1 L) : lFld c f lo s h E L := q
instance st_i_fld  : Stp (lFld c f lo s h E L) (lo s h E fun x h1 => gFld c f x h1 L) := ⟨i_fld⟩
theorem i_fldG (e : h a = some (.ins c fs)) (ef : fget fs f = some v) (q : L v h) : gFld c f (.ref a) h L := by
  unfold gFld
  dsimp only
  rw [e]
  dsimp only
  rw [ef]
  exact ⟨rfl, q⟩
theorem i_fldS (q : lb s h (fun c fs h' => ex c fs s h') fun x h1 => lo s h1 (fun c fs h' => ex c fs s h') fun o h2 => gFldS c f x o h2 fun h3 => nx s h3) : lFldS c f lo lb ⟨nx, rt, ex, bk, ct⟩ s h := q
instance st_i_fldS  : Stp (lFldS c f lo lb ⟨nx, rt, ex, bk, ct⟩ s h) (lb s h (fun c fs h' => ex c fs s h') fun x h1 => lo s h1 (fun c fs h' => ex c fs s h') fun o h2 => gFldS c f x o h2 fun h3 => nx s h3) := ⟨i_fldS⟩
theorem i_fldP (e : h a = some (.ins c fs)) (hz : fs.length < 100) (q : LP (up h a (.ins c (fput f x fs)))) : gFldS c f x (.ref a) h LP := by
  unfold gFldS
  dsimp only
  rw [e]
  exact ⟨rfl, hz, q⟩
theorem i_fldPN {fs2 : List (Fd × LV)} (e : h a = some (.ins c fs)) (hz : fs.length < 100) (ef : fput f x fs = fs2) (q : LP (up h a (.ins c fs2))) : gFldS c f x (.ref a) h LP := i_fldP e hz (by rw [ef]; exact q)
theorem i_fldA (q : lo s h (fun c fs h' => ex c fs s h') fun o h1 => gFldA c f lb s (fun c fs h' => ex c fs s h') o h1 fun h3 => nx s h3) : lFldAdd c f lo lb ⟨nx, rt, ex, bk, ct⟩ s h := q
instance st_i_fldA  : Stp (lFldAdd c f lo lb ⟨nx, rt, ex, bk, ct⟩ s h) (lo s h (fun c fs h' => ex c fs s h') fun o h1 => gFldA c f lb s (fun c fs h' => ex c fs s h') o h1 fun h3 => nx s h3) := ⟨i_fldA⟩
theorem i_fldA1 (e : h a = some (.ins c fs)) (ef : fget fs f = some (.int i)) (q : lb s h E fun y h2 => gFldB c f a i y h2 LP) : gFldA c f lb s E (.ref a) h LP := by
  unfold gFldA
  dsimp only
  rw [e]
  dsimp only
  rw [ef]
  exact ⟨rfl, q⟩
theorem i_fldB {fs2 : List (Fd × LV)} (e : h a = some (.ins c fs)) (hz : fs.length < 100) (ef : fput f (.int (i + j)) fs = fs2) (q : LP (up h a (.ins c fs2))) : gFldB c f a i (.int j) h LP := by
  unfold gFldB
  dsimp only
  rw [e]
  exact ⟨rfl, hz, by rw [ef]; exact q⟩
theorem i_meth {ls : LSp} (q : lo s h E fun x h1 => gMth c x h1 (lr s h1 E fun xs h2 => ls (x :: xs) h2 E L)) : lMeth c ls lo lr s h E L := by
  refine cast (congrArg (fun K => lo s h E K) (funext fun x => funext fun h1 => ?_)) q
  unfold gMth
  cases x <;> rfl
instance st_i_meth {ls : LSp} : Stp (lMeth c ls lo lr s h E L) (lo s h E fun x h1 => gMth c x h1 (lr s h1 E fun xs h2 => ls (x :: xs) h2 E L)) := ⟨i_meth⟩
theorem i_methG {Q : Prop} (e : h a = some (.ins c fs)) (q : Q) : gMth c (.ref a) h Q := by
  unfold gMth
  dsimp only
  rw [e]
  exact ⟨rfl, q⟩
theorem i_make {ls : LSp} (q : lr s h E fun xs h1 => ∀ x, h1 x = none → ls (.ref x :: xs) (up h1 x (.ins c [])) X0 fun v h2 => v = .non ∧ L (.ref x) h2) : lMake c ls lr s h E L := q
/-- tests -/
theorem k_true {P Q : Prop} (q : P) : if true = true then P else Q := q
theorem k_false {P Q : Prop} (q : Q) : if false = true then P else Q := by rw [if_neg Bool.false_ne_true]; exact q
theorem k_dec {p P Q : Prop} [Decidable p] (h1 : p → P) (h2 : ¬p → Q) : if decide p = true then P else Q := by
  split
  · rename_i e; exact h1 (of_decide_eq_true e)
  · rename_i e; exact h2 fun q => e (decide_eq_true q)
theorem k_ndec {p P Q : Prop} [Decidable p] (h1 : ¬p → P) (h2 : p → Q) : if (!decide p) = true then P else Q := by
  by_cases hp : p
  · rw [decide_eq_true hp]; exact h2 hp
  · rw [decide_eq_false hp]; exact h1 hp
theorem k_nnd {p P Q : Prop} [Decidable p] (h1 : p → P) (h2 : ¬p → Q) : if (!(!decide p)) = true then P else Q := by
  by_cases hp : p
  · rw [decide_eq_true hp]; exact h1 hp
  · rw [decide_eq_false hp]; exact h2 hp
theorem k_nT {P Q : Prop} (q : Q) : if (!true) = true then P else Q := q
theorem k_nF {P Q : Prop} (q : P) : if (!false) = true then P else Q := q
theorem k_decR {α : Type} [DecidableEq α] {a : α} {P Q : Prop} (q : P) : if decide (a = a) = true then P else Q := by rw [decide_eq_true rfl]; exact q
theorem k_ndecR {α : Type} [DecidableEq α] {a : α} {P Q : Prop} (q : Q) : if (!decide (a = a)) = true then P else Q := by rw [decide_eq_true rfl]; exact q
theorem i_chnR {α : Type} [DecidableEq α] {a : α} {A B : Prop} (q : A) : gChn (.bl (decide (a = a))) A B := by rw [decide_eq_true rfl]; exact q
theorem k_any {b : Bool} {P Q : Prop} (h1 : b = true → P) (h2 : b = false → Q) : if b = true then P else Q := by
  cases b
  · rw [if_neg Bool.false_ne_true]; exact h2 rfl
  · exact h1 rfl
/-- a bool is known by its cases -/
theorem k_bl {b : Bool} {P : Bool → Prop} (h1 : b = true → P true) (h2 : b = false → P false) : P b := by
  cases b
  · exact h2 rfl
  · exact h1 rfl
/-- the ends of a def -/
theorem i_rt (q : Dn (L x) h) : (fnE E L).rt x h := q
theorem i_nxE (q : Dn (L .non) h) : (fnE E L).nx s h := q
theorem i_exE (q : Dn (E c fs) h) : (fnE E L).ex c fs s h := q
/-! ### loops -/
def kFor (nx : LS → LH → Prop) (rt : LK) (ex : SX) (g : LTG) (lb : LTS) (s : LS) (it : LIt) (h1 : LH) : Prop := ∃ (n : Nat) (P : Nat → LS → LH → Prop), P 0 s h1 ∧ ∀ i s h, P i s h → match it i h with
  | none => False
  | some none => nx s h
  | some (some x) => i < n ∧ g x s h ex fun s' h' => lb ⟨P (i + 1), rt, ex, nx, P (i + 1)⟩ s' h'
variable {l3 : LTI} {lbody : LTS} {KI : LIt → LH → Prop}
theorem i_for (q : l3 s h (fun c fs h' => ex c fs s h') fun it h1 => kFor nx rt ex g lbody s it h1) : lFor l3 g lbody ⟨nx, rt, ex, bk, ct⟩ s h := q
instance st_i_for  : Stp (lFor l3 g lbody ⟨nx, rt, ex, bk, ct⟩ s h) (l3 s h (fun c fs h' => ex c fs s h') fun it h1 => kFor nx rt ex g lbody s it h1) := ⟨i_for⟩
theorem i_rng1 (q : lr s h E fun xs h1 => match xs with
  | [.int j] => -1000000 ≤ j ∧ j ≤ 1000000 ∧ KI (itR 0 j.toNat) h1
  | _ => False) : liRng1 lr s h E KI := q
instance st_i_rng1  : Stp (liRng1 lr s h E KI) (lr s h E fun xs h1 => match xs with
  | [.int j] => -1000000 ≤ j ∧ j ≤ 1000000 ∧ KI (itR 0 j.toNat) h1
  | _ => False) := ⟨i_rng1⟩
theorem i_rng2 (q : lr s h E fun xs h1 => match xs with
  | [.int i, .int j] => (-1000000 ≤ i ∧ i ≤ 1000000 ∧ -1000000 ≤ j ∧ j ≤ 1000000) ∧ KI (itR i (j - i).toNat) h1
  | _ => False) : liRng2 lr s h E KI := q
instance st_i_rng2  : Stp (liRng2 lr s h E KI) (lr s h E fun xs h1 => match xs with
  | [.int i, .int j] => (-1000000 ≤ i ∧ i ≤ 1000000 ∧ -1000000 ≤ j ∧ j ≤ 1000000) ∧ KI (itR i (j - i).toNat) h1
  | _ => False) := ⟨i_rng2⟩
theorem i_liSeq (q : le s h E fun x h1 => gLi x h1 KI) : liSeq le s h E KI := q
instance st_i_liSeq  : Stp (liSeq le s h E KI) (le s h E fun x h1 => gLi x h1 KI) := ⟨i_liSeq⟩
theorem i_liL (e : h a = some (.lst xs)) (q : KI (itL a) h) : gLi (.ref a) h KI := by
  unfold gLi
  dsimp only
  rw [e]; exact q
theorem i_liT (q : KI (itSt xs) h) : gLi (.tup xs) h KI := q
instance st_i_liT  : Stp (gLi (.tup xs) h KI) (KI (itSt xs) h) := ⟨i_liT⟩
theorem i_liR (q : KI (itSt xs) h) : gLi (.rl xs) h KI := q
instance st_i_liR  : Stp (gLi (.rl xs) h KI) (KI (itSt xs) h) := ⟨i_liR⟩
theorem i_liStr (q : KI (itSt (z.cps.toList.map fun c => .str ⟨#[c]⟩)) h) : gLi (.str z) h KI := q
instance st_i_liStr  : Stp (gLi (.str z) h KI) (KI (itSt (z.cps.toList.map fun c => .str ⟨#[c]⟩)) h) := ⟨i_liStr⟩
theorem for_rng {lo : Int} {m : Nat} {h1 : LH} (P : Nat → LS → LH → Prop) (p0 : P 0 s h1) (stop : ∀ s' h', P m s' h' → nx s' h')
    (step : ∀ i s' h', i < m → P i s' h' → g (.int (lo + i)) s' h' ex fun s2 h2 => lbody ⟨P (i + 1), rt, ex, nx, P (i + 1)⟩ s2 h2) : kFor nx rt ex g lbody s (itR lo m) h1 := by
  refine ⟨m, fun i s h => i ≤ m ∧ P i s h, ⟨Nat.zero_le _, p0⟩, fun i s' h' hp => ?_⟩
  unfold itR
  by_cases hi : i < m
  · rw [if_pos hi]
    refine ⟨hi, ?_⟩
    have q := step i s' h' hi hp.2
    have e : (fun s h => i + 1 ≤ m ∧ P (i + 1) s h) = P (i + 1) := by
      funext s h
      exact propext ⟨fun z => z.2, fun z => ⟨hi, z⟩⟩
    rw [← e] at q
    exact q
  · rw [if_neg hi]
    have e : i = m := by omega
    subst e
    exact stop s' h' hp.2
theorem for_st {h1 : LH} (P : Nat → LS → LH → Prop) (p0 : P 0 s h1) (stop : ∀ s' h', P xs.length s' h' → nx s' h')
    (step : ∀ i x s' h', xs[i]? = some x → P i s' h' → g x s' h' ex fun s2 h2 => lbody ⟨P (i + 1), rt, ex, nx, P (i + 1)⟩ s2 h2) : kFor nx rt ex g lbody s (itSt xs) h1 := by
  refine ⟨xs.length, fun i s h => i ≤ xs.length ∧ P i s h, ⟨Nat.zero_le _, p0⟩, fun i s' h' hp => ?_⟩
  unfold itSt
  cases eq : xs[i]? with
  | some x =>
    have hi : i < xs.length := (List.getElem?_eq_some_iff.mp eq).1
    refine ⟨hi, ?_⟩
    have q := step i x s' h' eq hp.2
    have e : (fun s h => i + 1 ≤ xs.length ∧ P (i + 1) s h) = P (i + 1) := by
      funext s h
      exact propext ⟨fun z => z.2, fun z => ⟨hi, z⟩⟩
    rw [← e] at q
    exact q
  | none =>
    have e : i = xs.length := by
      have := List.getElem?_eq_none_iff.mp eq
      have := hp.1
      omega
    subst e
    exact stop s' h' hp.2
/-- over a list in the heap that stays as it is -/
theorem for_lst {h1 : LH} (e0 : h1 a = some (.lst xs)) (P : Nat → LS → LH → Prop) (p0 : P 0 s h1) (stop : ∀ s' h', h' a = some (.lst xs) → P xs.length s' h' → nx s' h')
    (step : ∀ i x s' h', h' a = some (.lst xs) → xs[i]? = some x → P i s' h' → g x s' h' ex fun s2 h2 => lbody ⟨fun s3 h3 => h3 a = some (.lst xs) ∧ P (i + 1) s3 h3, rt, ex, nx, fun s3 h3 => h3 a = some (.lst xs) ∧ P (i + 1) s3 h3⟩ s2 h2) : kFor nx rt ex g lbody s (itL a) h1 := by
  refine ⟨xs.length, fun i s h => i ≤ xs.length ∧ h a = some (.lst xs) ∧ P i s h, ⟨Nat.zero_le _, e0, p0⟩, fun i s' h' hp => ?_⟩
  unfold itL
  rw [hp.2.1]
  dsimp only
  cases eq : xs[i]? with
  | some x =>
    have hi : i < xs.length := (List.getElem?_eq_some_iff.mp eq).1
    refine ⟨hi, ?_⟩
    have q := step i x s' h' hp.2.1 eq hp.2.2
    have e : (fun s h => i + 1 ≤ xs.length ∧ h a = some (.lst xs) ∧ P (i + 1) s h) = fun s3 h3 => h3 a = some (.lst xs) ∧ P (i + 1) s3 h3 := by
      funext s h
      exact propext ⟨fun z => z.2, fun z => ⟨hi, z⟩⟩
    rw [← e] at q
    exact q
  | none =>
    have e : i = xs.length := by
      have := List.getElem?_eq_none_iff.mp eq
      have := hp.1
      omega
    subst e
    exact stop s' h' hp.2.1 hp.2.2
theorem i_listRg (q : le s h E fun x h1 => match x with
  | .int n => (0 ≤ n ∧ n ≤ 1000000) ∧ ∀ p, h1 p = none → L (.ref p) (up h1 p (.lst ((rgL n.toNat).map .int)))
  | _ => False) : lListRg1 le s h E L := q
theorem i_tupRg (q : le s h E fun x h1 => match x with
  | .int n => (0 ≤ n ∧ n ≤ 1000000) ∧ L (.tup ((rgL n.toNat).map .int)) h1
  | _ => False) : lTupRg1 le s h E L := q
instance st_i_tupRg  : Stp (lTupRg1 le s h E L) (le s h E fun x h1 => match x with
  | .int n => (0 ≤ n ∧ n ≤ 1000000) ∧ L (.tup ((rgL n.toNat).map .int)) h1
  | _ => False) := ⟨i_tupRg⟩
theorem i_leI2 {i j k l : Int} {Q : Prop} (e : i ≤ j ∧ k ≤ l) (q : Q) : (i ≤ j ∧ k ≤ l) ∧ Q := ⟨e, q⟩
theorem i_gtupL (e : h a = some (.lst xs)) (el : xs.length = n) (q : gs xs s h SE LN) : lgTup n gs (.ref a) s h SE LN := by
  unfold lgTup
  rw [seqOf_lst0 e]
  exact ⟨el, q⟩
theorem i_leN {n m : Nat} {Q : Prop} (e : n ≤ m) (q : Q) : n ≤ m ∧ Q := ⟨e, q⟩
theorem i_leI {i j : Int} {Q : Prop} (e : i ≤ j) (q : Q) : i ≤ j ∧ Q := ⟨e, q⟩
theorem i_leI4 {i j k l m n o p : Int} {Q : Prop} (e : i ≤ j ∧ k ≤ l ∧ m ≤ n ∧ o ≤ p) (q : Q) : (i ≤ j ∧ k ≤ l ∧ m ≤ n ∧ o ≤ p) ∧ Q := ⟨e, q⟩
theorem i_bmG {T : String} {Q : Prop} (e : lTy T x h) (q : Q) : lTy T x h ∧ Q := ⟨e, q⟩
/-! ### the box of digits -/
def BoxN (h : LH) (b : Addr) (n : Int) : Prop := ∃ x y c : Int, h b = some (.lst [.int x, .int y, .int c]) ∧ 0 ≤ x ∧ 0 ≤ y ∧ y < 2305843009213693951 ∧ 0 ≤ c ∧ c ≤ n
theorem BoxN.fresh {h : LH} {b p : Addr} {n : Int} {o : LO} (e : h p = none) (q : BoxN h b n) : BoxN (up h p o) b n := by
  obtain ⟨x, y, c, q, r⟩ := q
  exact ⟨x, y, c, up_old e q, r⟩
theorem BoxN.other {h : LH} {b p : Addr} {n : Int} {o : LO} (e : b ≠ p) (q : BoxN h b n) : BoxN (up h p o) b n := by
  obtain ⟨x, y, c, q, r⟩ := q
  exact ⟨x, y, c, up_neq e q, r⟩
theorem BoxN.keep {h h1 : LH} {b p : Addr} {n : Int} (k : Keep p h h1) (e : b ≠ p) (q : BoxN h b n) : BoxN h1 b n := by
  obtain ⟨x, y, c, q, r⟩ := q
  exact ⟨x, y, c, k _ _ e q, r⟩
theorem BoxN.mono {h : LH} {b : Addr} {n m : Int} (e : n ≤ m) (q : BoxN h b n) : BoxN h b m := by
  obtain ⟨x, y, c, q, r⟩ := q
  exact ⟨x, y, c, q, by omega⟩
theorem BoxN.ne {h : LH} {b p : Addr} {n : Int} (e : h p = none) (q : BoxN h b n) : p ≠ b := by
  obtain ⟨x, y, c, q, r⟩ := q
  exact Ne.symm (ne_fr q e)
/-- a box without a bound of its counter -/
def BoxU (h : LH) (b : Addr) : Prop := ∃ x y c : Int, h b = some (.lst [.int x, .int y, .int c]) ∧ 0 ≤ x
theorem BoxU.fresh {h : LH} {b p : Addr} {o : LO} (e : h p = none) (q : BoxU h b) : BoxU (up h p o) b := by
  obtain ⟨x, y, c, q, r⟩ := q
  exact ⟨x, y, c, up_old e q, r⟩
theorem BoxU.other {h : LH} {b p : Addr} {o : LO} (e : b ≠ p) (q : BoxU h b) : BoxU (up h p o) b := by
  obtain ⟨x, y, c, q, r⟩ := q
  exact ⟨x, y, c, up_neq e q, r⟩
theorem BoxU.keep {h h1 : LH} {b p : Addr} (k : Keep p h h1) (e : b ≠ p) (q : BoxU h b) : BoxU h1 b := by
  obtain ⟨x, y, c, q, r⟩ := q
  exact ⟨x, y, c, k _ _ e q, r⟩
theorem BoxU.ne {h : LH} {b p : Addr} (e : h p = none) (q : BoxU h b) : p ≠ b := by
  obtain ⟨x, y, c, q, r⟩ := q
  exact Ne.symm (ne_fr q e)
theorem BoxU.sub {h h1 : LH} {b : Addr} (k : Sub h h1) (q : BoxU h b) : BoxU h1 b := by
  obtain ⟨x, y, c, q, r⟩ := q
  exact ⟨x, y, c, k _ _ q, r⟩
end
end VL

set_option Elab.async false
set_option linter.all false
set_option maxRecDepth 100000
set_option maxHeartbeats 2000000
namespace VL
open PySem PySem.Spec PyProof.Rows L2
section
variable {nx bk ct : LS → LH → Prop} {rt : LK} {ex : SX} {s s1 s' : LS} {h : LH} {E : LX} {L : LK} {D : LEnds} {la lb lc le lo li : LTE} {lr : LTA} {lt lu : LTT} {x y v : LV} {xs ys zs : List LV} {a b : Addr} {kvs : List (Key × LV)}
theorem lty_lst (e : h a = some (.lst xs)) : lty h (.ref a) = some "list" := by unfold lty; dsimp only; rw [e]
theorem lty_dic (e : h a = some (.dic kvs)) : lty h (.ref a) = some "dict" := by unfold lty; dsimp only; rw [e]
theorem i_isiK {A B : String} {c : Bool} (e : lty h x = some A) (hb : B ∈ tyNames ∧ B ≠ "NoneType") (hc : isiT A B = c) (q : L (.bl c) h) : gIsi [x, .ty B] h L := i_isi1 e hb (by rw [hc]; exact q)
theorem i_isiNK {A : String} {Bs : List String} {c : Bool} (e : lty h x = some A) (et : tysOf xs = some Bs) (hb : ∀ b ∈ Bs, b ∈ tyNames ∧ b ≠ "NoneType") (hc : Bs.any (isiT A) = c) (q : L (.bl c) h) : gIsi [x, .tup xs] h L := i_isiN e et hb (by rw [hc]; exact q)
/-! ### comprehensions -/
def kLc (nt : NT) (lt : LTT) (le : LTE) (vs : List Nat) (s : LS) (it : LIt) (h1 : LH) (L : LK) : Prop := ∀ D, h1 D = none → ∃ (n : Nat) (P : Nat → LH → Prop), P 0 (up h1 D (.lst [])) ∧ ∀ i h, P i h → match it i h with
  | none => False
  | some none => L (.ref D) h
  | some (some x) => i < n ∧ match nt.put x (lwipe s vs) with
    | some s2 => lt s2 h X0 fun b h3 => if b = true then le s2 h3 X0 fun y h4 => (match h4 D with
      | some (.lst acc) => acc.length < 100000 ∧ P (i + 1) (up h4 D (.lst (acc ++ [y])))
      | _ => False) else P (i + 1) h3
    | none => False
variable {l3 : LTI} {nt : NT} {vs : List Nat}
theorem i_lc (q : l3 s h E fun it h1 => kLc nt lt le vs s it h1 L) : lLc l3 nt lt le vs s h E L := q
instance st_i_lc  : Stp (lLc l3 nt lt le vs s h E L) (l3 s h E fun it h1 => kLc nt lt le vs s it h1 L) := ⟨i_lc⟩
/-- each item by a law of its own; the list grows at the end -/
def cAppP (m : Nat) (D : Addr) (Q : Addr → Nat → List LV → LH → Prop) (i : Nat) (h' : LH) : Prop := i ≤ m ∧ ∃ acc, acc.length = i ∧ h' D = some (.lst acc) ∧ Q D i acc h'
def cApp (m : Nat) (D : Addr) (Q : Addr → Nat → List LV → LH → Prop) (i : Nat) (y : LV) (h4 : LH) : Prop := match h4 D with
  | some (.lst acc) => acc.length < 100000 ∧ cAppP m D Q (i + 1) (up h4 D (.lst (acc ++ [y])))
  | _ => False
theorem cApp.mk {m : Nat} {D : Addr} {Q : Addr → Nat → List LV → LH → Prop} {i : Nat} {y : LV} {h4 : LH} {acc : List LV} (hl : acc.length = i) (hi : i < m) (hz : m ≤ 100000) (e : h4 D = some (.lst acc)) (q : Q D (i + 1) (acc ++ [y]) (up h4 D (.lst (acc ++ [y])))) : cApp m D Q i y h4 := by
  unfold cApp
  rw [e]
  exact ⟨by omega, hi, acc ++ [y], by rw [List.length_append, hl]; rfl, up_same, q⟩
theorem lc_genH {it : LIt} {m : Nat} {item : Nat → LV} {f : LV → LS} (Q : Addr → Nat → List LV → LH → Prop) (hit : ∀ D i acc h', h D = none → h' D = some (.lst acc) → Q D i acc h' → it i h' = if i < m then some (some (item i)) else some none) (ef : ∀ i, nt.put (item i) (lwipe s vs) = some (f (item i)))
    (q0 : ∀ D, h D = none → Q D 0 [] (up h D (.lst [])))
    (step : ∀ D i acc h', h D = none → i < m → acc.length = i → h' D = some (.lst acc) → Q D i acc h' → le (f (item i)) h' X0 (cApp m D Q i))
    (stop : ∀ D acc h', h D = none → acc.length = m → h' D = some (.lst acc) → Q D m acc h' → L (.ref D) h') : kLc nt lYes le vs s it h L := by
  intro D hD
  refine ⟨m, cAppP m D Q, ⟨Nat.zero_le _, [], rfl, up_same, q0 D hD⟩, fun i h' ⟨hi, acc, hl, ha, hq⟩ => ?_⟩
  rw [hit D i acc h' hD ha hq]
  by_cases hlt : i < m
  · rw [if_pos hlt]
    refine ⟨hlt, ?_⟩
    rw [ef]
    exact step D i acc h' hD hlt hl ha hq
  · rw [if_neg hlt]
    have e : i = m := by omega
    subst e
    exact stop D acc h' hD hl ha hq
theorem lc_gen {it : LIt} {m : Nat} {item : Nat → LV} {f : LV → LS} (Q : Addr → Nat → List LV → LH → Prop) (hit : ∀ i h, it i h = if i < m then some (some (item i)) else some none) (ef : ∀ i, nt.put (item i) (lwipe s vs) = some (f (item i)))
    (q0 : ∀ D, h D = none → Q D 0 [] (up h D (.lst [])))
    (step : ∀ D i acc h', h D = none → i < m → acc.length = i → h' D = some (.lst acc) → Q D i acc h' → le (f (item i)) h' X0 (cApp m D Q i))
    (stop : ∀ D acc h', h D = none → acc.length = m → h' D = some (.lst acc) → Q D m acc h' → L (.ref D) h') : kLc nt lYes le vs s it h L :=
  lc_genH Q (fun D i acc h' _ _ _ => hit i h') ef q0 step stop
theorem lc_rng {lo : Int} {m : Nat} {f : LV → LS} (Q : Addr → Nat → List LV → LH → Prop) (ef : ∀ x, nt.put x (lwipe s vs) = some (f x))
    (q0 : ∀ D, h D = none → Q D 0 [] (up h D (.lst [])))
    (step : ∀ D i acc h', h D = none → i < m → acc.length = i → h' D = some (.lst acc) → Q D i acc h' → le (f (.int (lo + i))) h' X0 (cApp m D Q i))
    (stop : ∀ D acc h', h D = none → acc.length = m → h' D = some (.lst acc) → Q D m acc h' → L (.ref D) h') : kLc nt lYes le vs s (itR lo m) h L :=
  lc_gen (item := fun i => .int (lo + i)) Q (fun i h => rfl) (fun i => ef _) q0 step stop
/-- a pure law, item by item -/
theorem lc_mapS {f : LV → LS} (g : LV → LV) (ef : ∀ x, nt.put x (lwipe s vs) = some (f x)) (hz : xs.length ≤ 100000)
    (pure : ∀ x h' K, x ∈ xs → Sub h h' → K (g x) h' → le (f x) h' X0 K) (q : ∀ D, h D = none → L (.ref D) (up h D (.lst (xs.map g)))) : kLc nt lYes le vs s (itSt xs) h L := by
  refine lc_gen (m := xs.length) (item := fun i => xs.getD i .non) (fun D i acc h' => h' = up h D (.lst ((xs.take i).map g)) ∧ acc = (xs.take i).map g) (fun i h => ?_) (fun i => ef _) (fun D hD => ⟨rfl, rfl⟩) (fun D i acc h' hD hi hl ha hq => ?_) (fun D acc h' hD hl ha hq => ?_)
  · unfold itSt
    by_cases hi : i < xs.length
    · rw [if_pos hi, List.getElem?_eq_getElem hi, List.getD_eq_getElem?_getD, List.getElem?_eq_getElem hi]
      rfl
    · rw [if_neg hi, List.getElem?_eq_none (by omega)]
  · obtain ⟨rfl, rfl⟩ := hq
    have eg : xs.getD i .non = xs[i] := by rw [List.getD_eq_getElem?_getD, List.getElem?_eq_getElem hi]; rfl
    rw [eg]
    refine pure _ _ _ (List.getElem_mem hi) (Sub.fresh hD (Sub.refl h)) ?_
    refine cApp.mk hl hi hz ha ?_
    rw [List.take_succ_eq_append_getElem hi, List.map_append]
    exact ⟨up_up, rfl⟩
  · rw [hq.1, List.take_length]
    exact q D hD

variable {g : LTG} {lbody : LTS} {KI : LIt → LH → Prop}
def gEn : LV → LH → (LIt → LH → Prop) → Prop := fun x h1 KI => match x with
  | .rl xs => KI (itEnS xs) h1
  | .ref a => (match h1 a with
    | some (.lst _) => KI (itEnL a) h1
    | _ => False)
  | _ => False
theorem i_enum (q : le s h E fun x h1 => gEn x h1 KI) : liEnumL le s h E KI := q
theorem i_enR (q : KI (itEnS xs) h) : gEn (.rl xs) h KI := q
theorem i_enL (e : h a = some (.lst xs)) (q : KI (itEnL a) h) : gEn (.ref a) h KI := by
  unfold gEn
  dsimp only
  rw [e]; exact q
theorem for_enL {h1 : LH} (e0 : h1 a = some (.lst xs)) (P : Nat → LS → LH → Prop) (p0 : P 0 s h1) (stop : ∀ s' h', h' a = some (.lst xs) → P xs.length s' h' → nx s' h')
    (step : ∀ (i : Nat) x s' h', h' a = some (.lst xs) → xs[i]? = some x → P i s' h' → g (.tup [.int i, x]) s' h' ex fun s2 h2 => lbody ⟨fun s3 h3 => h3 a = some (.lst xs) ∧ P (i + 1) s3 h3, rt, ex, nx, fun s3 h3 => h3 a = some (.lst xs) ∧ P (i + 1) s3 h3⟩ s2 h2) : kFor nx rt ex g lbody s (itEnL a) h1 := by
  refine ⟨xs.length, fun i s h => i ≤ xs.length ∧ h a = some (.lst xs) ∧ P i s h, ⟨Nat.zero_le _, e0, p0⟩, fun i s' h' hp => ?_⟩
  unfold itEnL
  rw [hp.2.1]
  dsimp only
  cases eq : xs[i]? with
  | some x =>
    have hi : i < xs.length := (List.getElem?_eq_some_iff.mp eq).1
    refine ⟨hi, ?_⟩
    have q := step i x s' h' hp.2.1 eq hp.2.2
    have e : (fun s h => i + 1 ≤ xs.length ∧ h a = some (.lst xs) ∧ P (i + 1) s h) = fun s3 h3 => h3 a = some (.lst xs) ∧ P (i + 1) s3 h3 := by
      funext s h
      exact propext ⟨fun z => z.2, fun z => ⟨hi, z⟩⟩
    rw [← e] at q
    exact q
  | none =>
    have e : i = xs.length := by
      have := List.getElem?_eq_none_iff.mp eq
      have := hp.1
      omega
    subst e
    exact stop s' h' hp.2.1 hp.2.2
def gZip : LV → LV → LH → (LIt → LH → Prop) → Prop := fun x y h2 KI => match x, y with
  | .tup xs, .tup ys => KI (itZS xs ys) h2
  | .ref a, .ref b => (match h2 a, h2 b with
    | some (.lst _), some (.lst _) => KI (itZL a b) h2
    | _, _ => False)
  | _, _ => False
theorem i_zip (q : la s h E fun x h1 => lb s h1 E fun y h2 => gZip x y h2 KI) : liZip la lb s h E KI := q
instance st_i_zip  : Stp (liZip la lb s h E KI) (la s h E fun x h1 => lb s h1 E fun y h2 => gZip x y h2 KI) := ⟨i_zip⟩
theorem i_zipT (q : KI (itZS xs ys) h) : gZip (.tup xs) (.tup ys) h KI := q
instance st_i_zipT  : Stp (gZip (.tup xs) (.tup ys) h KI) (KI (itZS xs ys) h) := ⟨i_zipT⟩
theorem i_zipL (ea : h a = some (.lst xs)) (eb : h b = some (.lst ys)) (q : KI (itZL a b) h) : gZip (.ref a) (.ref b) h KI := by
  unfold gZip
  dsimp only
  rw [ea, eb]
  exact q
/-- two rows of one length, each pair by a law that changes nothing and says yes -/
theorem lc_zipY {f : LV → LV → LS} (ef : ∀ x y, nt.put (.tup [x, y]) (lwipe s vs) = some (f x y)) (hl : xs.length = ys.length) (hz : xs.length ≤ 100000)
    (pure : ∀ (i : Nat) (x y : LV) (h' : LH) (K : LK), xs[i]? = some x → ys[i]? = some y → Sub h h' → K (.bl true) h' → le (f x y) h' X0 K) (q : ∀ D, h D = none → L (.ref D) (up h D (.lst (List.replicate xs.length (.bl true))))) : kLc nt lYes le vs s (itZS xs ys) h L := by
  refine lc_gen (m := xs.length) (item := fun i => .tup [xs.getD i .non, ys.getD i .non]) (f := fun t => match t with
    | .tup [x, y] => f x y
    | _ => s) (fun D i acc h' => h' = up h D (.lst (List.replicate i (.bl true))) ∧ acc = List.replicate i (.bl true)) (fun i h => ?_) ?_ (fun D hD => ⟨rfl, rfl⟩) (fun D i acc h' hD hi hl2 ha hq => ?_) (fun D acc h' hD hl2 ha hq => ?_)
  · unfold itZS zget
    by_cases hi : i < xs.length
    · rw [if_pos hi, List.getElem?_eq_getElem hi, List.getElem?_eq_getElem (l := ys) (by omega), List.getD_eq_getElem?_getD, List.getD_eq_getElem?_getD, List.getElem?_eq_getElem hi, List.getElem?_eq_getElem (l := ys) (by omega)]
      rfl
    · rw [if_neg hi, List.getElem?_eq_none (by omega)]
  · exact fun i => ef _ _
  · obtain ⟨rfl, rfl⟩ := hq
    have eg : xs.getD i .non = xs[i] := by rw [List.getD_eq_getElem?_getD, List.getElem?_eq_getElem hi]; rfl
    have eg2 : ys.getD i .non = ys[i] := by rw [List.getD_eq_getElem?_getD, List.getElem?_eq_getElem (l := ys) (by omega)]; rfl
    rw [eg, eg2]
    refine pure i _ _ _ _ (List.getElem?_eq_getElem hi) (List.getElem?_eq_getElem (l := ys) (by omega)) (Sub.fresh hD (Sub.refl h)) ?_
    refine cApp.mk hl2 hi hz ha ?_
    rw [← List.replicate_succ']
    exact ⟨up_up, rfl⟩
  · rw [hq.1]
    exact q D hD
theorem lc_zipYL {f : LV → LV → LS} (ea : h a = some (.lst xs)) (eb : h b = some (.lst ys)) (ef : ∀ x y, nt.put (.tup [x, y]) (lwipe s vs) = some (f x y)) (hl : xs.length = ys.length) (hz : xs.length ≤ 100000)
    (pure : ∀ (i : Nat) (x y : LV) (h' : LH) (K : LK), xs[i]? = some x → ys[i]? = some y → Sub h h' → K (.bl true) h' → le (f x y) h' X0 K) (q : ∀ D, h D = none → L (.ref D) (up h D (.lst (List.replicate xs.length (.bl true))))) : kLc nt lYes le vs s (itZL a b) h L := by
  refine lc_genH (m := xs.length) (item := fun i => .tup [xs.getD i .non, ys.getD i .non]) (f := fun t => match t with
    | .tup [x, y] => f x y
    | _ => s) (fun D i acc h' => h' = up h D (.lst (List.replicate i (.bl true))) ∧ acc = List.replicate i (.bl true)) (fun D i acc h' hD ha hq => ?_) ?_ (fun D hD => ⟨rfl, rfl⟩) (fun D i acc h' hD hi hl2 ha hq => ?_) (fun D acc h' hD hl2 ha hq => ?_)
  · have e1 : h' a = some (.lst xs) := by rw [hq.1]; exact up_old hD ea
    have e2 : h' b = some (.lst ys) := by rw [hq.1]; exact up_old hD eb
    unfold itZL
    rw [e1, e2]
    unfold zget
    dsimp only
    by_cases hi : i < xs.length
    · rw [if_pos hi, List.getElem?_eq_getElem hi, List.getElem?_eq_getElem (l := ys) (by omega), List.getD_eq_getElem?_getD, List.getD_eq_getElem?_getD, List.getElem?_eq_getElem hi, List.getElem?_eq_getElem (l := ys) (by omega)]
      rfl
    · rw [if_neg hi, List.getElem?_eq_none (by omega)]
  · exact fun i => ef _ _
  · obtain ⟨rfl, rfl⟩ := hq
    have eg : xs.getD i .non = xs[i] := by rw [List.getD_eq_getElem?_getD, List.getElem?_eq_getElem hi]; rfl
    have eg2 : ys.getD i .non = ys[i] := by rw [List.getD_eq_getElem?_getD, List.getElem?_eq_getElem (l := ys) (by omega)]; rfl
    rw [eg, eg2]
    refine pure i _ _ _ _ (List.getElem?_eq_getElem hi) (List.getElem?_eq_getElem (l := ys) (by omega)) (Sub.fresh hD (Sub.refl h)) ?_
    refine cApp.mk hl2 hi hz ha ?_
    rw [← List.replicate_succ']
    exact ⟨up_up, rfl⟩
  · rw [hq.1]
    exact q D hD
/-! ### a list or a tuple, by its items -/
theorem seqOf_ref (e : seqOf h (.ref a) = some xs) : h a = some (.lst xs) := by
  unfold seqOf at e
  dsimp only at e
  split at e
  · rename_i ys q; cases e; exact q
  · cases e
theorem seqOf_split (e : seqOf h x = some xs) : x = .tup xs ∨ x = .rl xs ∨ ∃ a, x = .ref a ∧ h a = some (.lst xs) := by
  cases x with
  | tup ys => cases e; exact .inl rfl
  | rl ys => cases e; exact .inr (.inl rfl)
  | ref a => exact .inr (.inr ⟨a, rfl, seqOf_ref e⟩)
  | _ => cases e
theorem seqOf_sub {h' : LH} (k : Sub h h') (e : seqOf h x = some xs) : seqOf h' x = some xs := by
  rcases seqOf_split e with rfl | rfl | ⟨a, rfl, q⟩
  · rfl
  · rfl
  · exact seqOf_lst (k _ _ q)
theorem seqOf_keep {h' : LH} (k : Keep b h h') (n : ∀ a, x = .ref a → a ≠ b) (e : seqOf h x = some xs) : seqOf h' x = some xs := by
  rcases seqOf_split e with rfl | rfl | ⟨a, rfl, q⟩
  · rfl
  · rfl
  · exact seqOf_lst (k _ _ (n a rfl) q)
theorem i_ix_seq {i : Int} (e : seqOf h x = some xs) (ei : atI xs i = some v) (q : L v h) : gIx x (.int i) h L := by
  rcases seqOf_split e with rfl | rfl | ⟨a, rfl, e2⟩
  · exact i_ix_tup ei q
  · exact i_ix_rl ei q
  · exact i_ix_lst e2 ei q
theorem i_list_seq (e : seqOf h x = some xs) (q : ∀ p, h p = none → L (.ref p) (up h p (.lst xs))) : gList [x] h L := by
  rcases seqOf_split e with rfl | rfl | ⟨a, rfl, e2⟩
  · exact q
  · exact q
  · exact i_list_lst e2 q
theorem i_tuple_seq (e : seqOf h x = some xs) (q : L (.tup xs) h) : gTuple [x] h L := by
  rcases seqOf_split e with rfl | rfl | ⟨a, rfl, e2⟩
  · exact q
  · exact q
  · exact i_tuple_lst e2 q
theorem i_len_seq (e : seqOf h x = some xs) (q : L (.int xs.length) h) : gLen [x] h L := by
  rcases seqOf_split e with rfl | rfl | ⟨a, rfl, e2⟩
  · exact q
  · exact q
  · exact i_len_lst e2 q
theorem for_seq (e0 : seqOf h x = some xs) (P : Nat → LS → LH → Prop) (keep : ∀ i s' h', P i s' h' → seqOf h' x = some xs) (p0 : P 0 s h) (stop : ∀ s' h', P xs.length s' h' → nx s' h')
    (step : ∀ (i : Nat) y s' h', xs[i]? = some y → P i s' h' → g y s' h' ex fun s2 h2 => lbody ⟨P (i + 1), rt, ex, nx, P (i + 1)⟩ s2 h2) : gLi x h fun it h1 => kFor nx rt ex g lbody s it h1 := by
  rcases seqOf_split e0 with rfl | rfl | ⟨a, rfl, e⟩
  · exact for_st P p0 stop step
  · exact for_st P p0 stop step
  · refine i_liL e ?_
    refine ⟨xs.length, fun i s h => i ≤ xs.length ∧ P i s h, ⟨Nat.zero_le _, p0⟩, fun i s' h' hp => ?_⟩
    unfold itL
    rw [seqOf_ref (keep i s' h' hp.2)]
    dsimp only
    cases eq : xs[i]? with
    | some x =>
      have hi : i < xs.length := (List.getElem?_eq_some_iff.mp eq).1
      refine ⟨hi, ?_⟩
      have q := step i x s' h' eq hp.2
      have e : (fun s h => i + 1 ≤ xs.length ∧ P (i + 1) s h) = P (i + 1) := by
        funext s h
        exact propext ⟨fun z => z.2, fun z => ⟨hi, z⟩⟩
      rw [← e] at q
      exact q
    | none =>
      have e : i = xs.length := by
        have := List.getElem?_eq_none_iff.mp eq
        have := hp.1
        omega
      subst e
      exact stop s' h' hp.2
end
end VL

set_option Elab.async false
set_option linter.all false
set_option maxRecDepth 100000
set_option maxHeartbeats 2000000
namespace VL
open PySem PySem.Spec PyProof.Rows L2
/-! plain words of the laws -/
def isDig : LV → Bool
  | .int i => decide (0 ≤ i) && decide (i < 16)
  | _ => false
/-- its kind can be told -/
def Told (h : LH) (x : LV) : Prop := ∃ t, lty h x = some t
theorem Told.split {h : LH} {x : LV} (t : Told h x) : x = .non ∨ (∃ b, x = .bl b) ∨ (∃ i, x = .int i) ∨ (∃ z, x = .str z) ∨ (∃ xs, x = .tup xs) ∨ (∃ xs, x = .rl xs) ∨ (∃ a xs, x = .ref a ∧ h a = some (.lst xs)) ∨ ∃ a xs, x = .ref a ∧ h a = some (.dic xs) := by
  obtain ⟨t, e⟩ := t
  cases x with
  | non => exact .inl rfl
  | bl b => exact .inr (.inl ⟨b, rfl⟩)
  | int b => exact .inr (.inr (.inl ⟨b, rfl⟩))
  | str b => exact .inr (.inr (.inr (.inl ⟨b, rfl⟩)))
  | tup b => exact .inr (.inr (.inr (.inr (.inl ⟨b, rfl⟩))))
  | rl b => exact .inr (.inr (.inr (.inr (.inr (.inl ⟨b, rfl⟩)))))
  | ty n => cases e
  | exc _ _ => cases e
  | cl _ => cases e
  | xt _ => cases e
  | ref a =>
    unfold lty at e
    dsimp only at e
    split at e
    · rename_i xs q; exact .inr (.inr (.inr (.inr (.inr (.inr (.inl ⟨a, xs, rfl, q⟩))))))
    · rename_i xs q; exact .inr (.inr (.inr (.inr (.inr (.inr (.inr ⟨a, xs, rfl, q⟩))))))
    · cases e
/-- what is_key is asked of -/
def Thing (h : LH) (x : LV) : Prop := Told h x ∧ ∀ xs, x = .tup xs → xs.length ≤ 100000 ∧ ∀ y ∈ xs, Told h y
def isKey : LV → Bool
  | .tup xs => decide (1 ≤ xs.length) && (decide (xs.length ≤ 8) && xs.all isDig)
  | _ => false
theorem Told.sub {h h' : LH} {x : LV} (s : Sub h h') (t : Told h x) : Told h' x := by
  rcases t.split with rfl | ⟨b, rfl⟩ | ⟨i, rfl⟩ | ⟨z, rfl⟩ | ⟨z, rfl⟩ | ⟨z, rfl⟩ | ⟨a, z, rfl, e⟩ | ⟨a, z, rfl, e⟩
  · exact ⟨_, rfl⟩
  · exact ⟨_, rfl⟩
  · exact ⟨_, rfl⟩
  · exact ⟨_, rfl⟩
  · exact ⟨_, rfl⟩
  · exact ⟨_, rfl⟩
  · exact ⟨_, lty_lst (s _ _ e)⟩
  · exact ⟨_, lty_dic (s _ _ e)⟩
theorem Told.box {h h' : LH} {b : Addr} {x : LV} (k : Keep b h h') (hb : BoxU h' b) (t : Told h x) : Told h' x := by
  rcases t.split with rfl | ⟨_, rfl⟩ | ⟨i, rfl⟩ | ⟨z, rfl⟩ | ⟨z, rfl⟩ | ⟨z, rfl⟩ | ⟨a, z, rfl, e⟩ | ⟨a, z, rfl, e⟩
  · exact ⟨_, rfl⟩
  · exact ⟨_, rfl⟩
  · exact ⟨_, rfl⟩
  · exact ⟨_, rfl⟩
  · exact ⟨_, rfl⟩
  · exact ⟨_, rfl⟩
  · by_cases hab : a = b
    · subst hab
      obtain ⟨_, _, _, e2, _⟩ := hb
      exact ⟨_, lty_lst e2⟩
    · exact ⟨_, lty_lst (k _ _ hab e)⟩
  · by_cases hab : a = b
    · subst hab
      obtain ⟨_, _, _, e2, _⟩ := hb
      exact ⟨_, lty_lst e2⟩
    · exact ⟨_, lty_dic (k _ _ hab e)⟩
theorem Told.up {h : LH} {D : Addr} {ys : List LV} {x : LV} (t : Told h x) : Told (VL.up h D (.lst ys)) x := by
  rcases t.split with rfl | ⟨_, rfl⟩ | ⟨i, rfl⟩ | ⟨z, rfl⟩ | ⟨z, rfl⟩ | ⟨z, rfl⟩ | ⟨a, z, rfl, e⟩ | ⟨a, z, rfl, e⟩
  · exact ⟨_, rfl⟩
  · exact ⟨_, rfl⟩
  · exact ⟨_, rfl⟩
  · exact ⟨_, rfl⟩
  · exact ⟨_, rfl⟩
  · exact ⟨_, rfl⟩
  · by_cases hab : a = D
    · subst hab
      exact ⟨_, lty_lst up_same⟩
    · exact ⟨_, lty_lst (up_neq hab e)⟩
  · by_cases hab : a = D
    · subst hab
      exact ⟨_, lty_lst up_same⟩
    · exact ⟨_, lty_dic (up_neq hab e)⟩
theorem told_set {h : LH} {xs : List LV} {k : Nat} {y : LV} (hy : Told h y) (hx : ∀ x ∈ xs, Told h x) : ∀ x ∈ xs.set k y, Told h x := fun x hm => by
  rcases List.mem_or_eq_of_mem_set hm with e | e
  · exact hx x e
  · rw [e]; exact hy
theorem cutL_ints2 (ns : List Int) (a b : Option Int) : ∃ ms : List Int, cutL (ns.map LV.int) a b = ms.map LV.int ∧ ms.length = HT.sIx ns.length ns.length b - HT.sIx ns.length 0 a := by
  refine ⟨(ns.drop (HT.sIx ns.length 0 a)).take (HT.sIx ns.length ns.length b - HT.sIx ns.length 0 a), ?_, ?_⟩
  · unfold cutL
    rw [List.length_map, List.map_take, List.map_drop]
  · rw [List.length_take, List.length_drop]
    have := HT.sIx_le ns.length ns.length (Nat.le_refl _) b
    omega
theorem ixN_of {n : Nat} {i : Int} (h0 : 0 ≤ i) (h1 : i < n) : ixN n i = some i.toNat := by
  unfold ixN
  rw [if_pos h0, if_pos h1]
theorem set_ints (ns : List Int) (k : Nat) (z : Int) : (ns.map LV.int).set k (.int z) = (ns.set k z).map .int := List.map_set.symm
theorem ints_get {ns : List Int} {k : Int} (h0 : 0 ≤ k) (h1 : k < ns.length) : ∃ z, atI (ns.map LV.int) k = some (.int z) := by
  have hz : k.toNat < ns.length := by omega
  refine ⟨ns[k.toNat], ?_⟩
  rw [atI_nat h0 (by rw [List.length_map]; exact h1), List.getElem?_map, List.getElem?_eq_getElem hz]
  rfl
theorem cutL_ints (ns : List Int) (a b : Option Int) : ∃ ms : List Int, cutL (ns.map LV.int) a b = ms.map LV.int ∧ ms.length ≤ ns.length := by
  refine ⟨(ns.drop (HT.sIx ns.length 0 a)).take (HT.sIx ns.length ns.length b - HT.sIx ns.length 0 a), ?_, ?_⟩
  · unfold cutL
    rw [List.length_map, List.map_take, List.map_drop]
  · rw [List.length_take, List.length_drop]
    omega
def wordOf (c l n f : Int) : Str := if c ≤ l then "old" else if c ≤ l + n then "near" else if c ≤ l + f then "far" else "beyond"
/-- alike, to a depth: what the laws' own looks call the same -/
def Alike : Nat → LH → LV → LV → Prop
  | 0, _, _, _ => False
  | n + 1, h, x, y => (x = y ∧ (x = .non ∨ (∃ i, x = .int i) ∨ ∃ z, x = .str z)) ∨ (∃ xs ys, x = .tup xs ∧ y = .tup ys ∧ xs.length = ys.length ∧ xs.length ≤ 100000 ∧ ∀ (i : Nat) a b, xs[i]? = some a → ys[i]? = some b → Alike n h a b) ∨
    ∃ p r xs ys, x = .ref p ∧ y = .ref r ∧ h p = some (.lst xs) ∧ h r = some (.lst ys) ∧ xs.length = ys.length ∧ xs.length ≤ 100000 ∧ ∀ (i : Nat) a b, xs[i]? = some a → ys[i]? = some b → Alike n h a b
theorem Alike.sub {h h' : LH} (s : Sub h h') : ∀ {n : Nat} {x y : LV}, Alike n h x y → Alike n h' x y
  | 0, _, _, q => q
  | n + 1, x, y, q => by
    rcases q with q | ⟨xs, ys, e1, e2, hl, hz, q⟩ | ⟨p, r, xs, ys, e1, e2, e3, e4, hl, hz, q⟩
    · exact .inl q
    · exact .inr (.inl ⟨xs, ys, e1, e2, hl, hz, fun i a b ea eb => Alike.sub s (q i a b ea eb)⟩)
    · exact .inr (.inr ⟨p, r, xs, ys, e1, e2, s _ _ e3, s _ _ e4, hl, hz, fun i a b ea eb => Alike.sub s (q i a b ea eb)⟩)
theorem Alike.int {n : Nat} {h : LH} (i : Int) : Alike (n + 1) h (.int i) (.int i) := .inl ⟨rfl, .inr (.inl ⟨i, rfl⟩)⟩
theorem Alike.str {n : Nat} {h : LH} (i : Str) : Alike (n + 1) h (.str i) (.str i) := .inl ⟨rfl, .inr (.inr ⟨i, rfl⟩)⟩
theorem Alike.non {n : Nat} {h : LH} : Alike (n + 1) h .non .non := .inl ⟨rfl, .inl rfl⟩
theorem Alike.ints {n : Nat} {h : LH} {ns : List Int} (hz : ns.length ≤ 100000) : Alike (n + 2) h (.tup (ns.map .int)) (.tup (ns.map .int)) :=
  .inr (.inl ⟨_, _, rfl, rfl, rfl, by rw [List.length_map]; exact hz, fun i a b ea eb => by
    rw [ea] at eb
    cases eb
    rw [List.getElem?_map] at ea
    cases em : ns[i]? with
    | none => rw [em] at ea; cases ea
    | some z => rw [em] at ea; cases ea; exact .int z⟩)
/-! ### coding rows of digits -/
/-- an item of a row of whole numbers, by a place that may stand one ahead of the first -/
def gI (xs : List Int) (i : Int) : Int := if 0 ≤ i then xs.getD i.toNat 0 else xs.getD (xs.length - (-i).toNat) 0
def stepC (tab : List Int) (turn : Int) (m : List Int) (p : Nat) : List Int := m.set p (gI tab ((gI m p + turn + p + gI m ((p : Int) - 1)) % 16))
def roundC (tab : List Int) (m : List Int) (turn : Int) : List Int := (List.range m.length).foldl (stepC tab turn) m
def codedF (tab key dig : List Int) : List Int := key.foldl (roundC tab) dig
theorem stepC_length {tab : List Int} {turn : Int} {m : List Int} {p : Nat} : (stepC tab turn m p).length = m.length := by unfold stepC; rw [List.length_set]
theorem foldC_length {tab : List Int} {turn : Int} : ∀ (ps : List Nat) (m : List Int), (ps.foldl (stepC tab turn) m).length = m.length
  | [], _ => rfl
  | p :: ps, m => by rw [List.foldl_cons, foldC_length ps, stepC_length]
theorem roundC_length {tab : List Int} {m : List Int} {turn : Int} : (roundC tab m turn).length = m.length := foldC_length _ _
theorem codedF_length {tab : List Int} : ∀ {key dig : List Int}, (codedF tab key dig).length = dig.length
  | [], _ => rfl
  | t :: key, dig => by
    show (codedF tab key (roundC tab dig t)).length = _
    rw [codedF_length, roundC_length]
theorem atI_gI {xs : List Int} {i : Int} (h0 : -1 ≤ i) (h1 : i < xs.length) (h2 : 0 < xs.length) : atI (xs.map LV.int) i = some (.int (gI xs i)) := by
  unfold gI
  by_cases hi : 0 ≤ i
  · have hz : i.toNat < xs.length := by omega
    rw [if_pos hi, atI_nat hi (by rw [List.length_map]; exact h1), List.getElem?_map, List.getD_eq_getElem?_getD, List.getElem?_eq_getElem hz]
    rfl
  · have e : i = -1 := by omega
    subst e
    have hz : xs.length - 1 < xs.length := by omega
    rw [if_neg hi]
    unfold atI ixN
    rw [if_neg hi, List.length_map, if_pos (by omega)]
    have e2 : (-1 + (xs.length : Int)).toNat = xs.length - 1 := by omega
    show ((some (-1 + (xs.length : Int)).toNat).bind fun j => (xs.map LV.int)[j]?) = _
    rw [e2]
    show (xs.map LV.int)[xs.length - 1]? = _
    rw [List.getElem?_map, List.getD_eq_getElem?_getD]
    have e3 : xs.length - (- -1 : Int).toNat = xs.length - 1 := rfl
    rw [e3, List.getElem?_eq_getElem hz]
    rfl
theorem Sub.put {h h' : LH} {p : Addr} {o : LO} (s : Sub h h') (e : h' p = some o) : Sub (VL.up h p o) h' := fun a u q => by
  by_cases ha : a = p
  · subst ha
    rw [up_same] at q
    cases q
    exact e
  · rw [up_ne ha] at q
    exact s a u q
def letters : Str := "abcdefghijklmnopqrstuvwxyz"
/-- small letters alone -/
def Low (z : Str) : Prop := z.length ≤ 1000 ∧ ∀ c ∈ z.cps.toList, 97 ≤ c ∧ c < 123
theorem index_low : ∀ k : Fin 26, Txt.index0 letters ⟨#[97 + k.val]⟩ = some k.val := by decide +kernel
theorem index_of_low {c : Nat} (h : 97 ≤ c ∧ c < 123) : Txt.index0 letters ⟨#[c]⟩ = some (c - 97) := by
  have e := index_low ⟨c - 97, by omega⟩
  have e2 : 97 + (c - 97) = c := by omega
  dsimp only at e
  rw [e2] at e
  exact e
def nameD : List Nat → List Int
  | [] => []
  | c :: r => [((c - 97 : Nat) : Int) % 16, ((c - 97 : Nat) : Int) / 16] ++ nameD r
theorem nameD_length : ∀ l : List Nat, (nameD l).length = 2 * l.length
  | [] => rfl
  | c :: r => by rw [nameD, List.length_append, nameD_length r, List.length_cons]; simp; omega
theorem nameD_snoc : ∀ (l : List Nat) (c : Nat), nameD (l ++ [c]) = nameD l ++ [((c - 97 : Nat) : Int) % 16, ((c - 97 : Nat) : Int) / 16]
  | [], c => rfl
  | d :: r, c => by rw [List.cons_append, nameD, nameD_snoc r c, nameD, List.append_assoc]
def ownStep (ds : List Int) (own : List Int) (i : Nat) : List Int := own.set (i % 4) ((gI own ((i : Int) % 4) + gI ds i) % 16)
def ownF (ds : List Int) : List Int := (List.range ds.length).foldl (ownStep ds) [0, 0, 0, 0]
def keyF (tab key : List Int) (z : Str) : List Int := codedF tab key (ownF (nameD z.cps.toList))
def digsF (count deed : Int) : List Int := [count % 16, count / 16 % 16, count / 256, deed]
def pressF (tab key : List Int) (z : Str) (age count deed : Int) : LV := .tup [.str z, .int age, .tup ((codedF tab (keyF tab key z) (digsF count deed ++ [(digsF count deed).sum % 16])).map .int)]
theorem ownFold_length {ds : List Int} : ∀ (ps : List Nat) (m : List Int), (ps.foldl (ownStep ds) m).length = m.length
  | [], _ => rfl
  | p :: ps, m => by rw [List.foldl_cons, ownFold_length ps]; unfold ownStep; rw [List.length_set]
theorem map_erase {α β : Type} (f : α → β) : ∀ (l : List α) (i : Nat), (l.map f).eraseIdx i = (l.eraseIdx i).map f
  | [], _ => rfl
  | _ :: _, 0 => rfl
  | x :: l, i + 1 => by
    show f x :: (l.map f).eraseIdx i = f x :: (l.eraseIdx i).map f
    rw [map_erase f l i]
theorem perm_erase {α : Type} : ∀ (l : List α) (i : Nat) (h : i < l.length), (l[i] :: l.eraseIdx i).Perm l
  | [], _, h => absurd h (Nat.not_lt_zero _)
  | _ :: _, 0, _ => .refl _
  | x :: l, i + 1, h => by
    show (l[i]'(Nat.lt_of_succ_lt_succ h) :: x :: l.eraseIdx i).Perm (x :: l)
    exact (List.Perm.swap _ _ _).trans ((perm_erase l i (Nat.lt_of_succ_lt_succ h)).cons x)
/-! ### buttons -/
def cv : Option Int → LV
  | some i => .int i
  | none => .non
structure Bt where
  z : Str
  tab : List Int
  key : List Int
  age : Int
  step : Int
  n : Int
  bd : Int
  c0 : Option Int
  c1 : Option Int
def Bt.fs (B : Bt) (c : Addr) : List (Fd × LV) := [(.own_name, .str B.z), (.own_table, .tup (B.tab.map .int)), (.own_key, .tup (B.key.map .int)), (.own_age, .int B.age), (.own_step, .int B.step), (.so_many, .int B.n), (.allowed, .int B.bd), (.cells, .ref c)]
structure BtAt (h : LH) (o c : Addr) (B : Bt) : Prop where
  ob : h o = some (.ins .Button (B.fs c))
  cl : h c = some (.lst [cv B.c0, cv B.c1])
def Bt.write (B : Bt) : Bt := if B.c0 = some B.bd then { B with bd := min (B.bd + B.step) 4096, c1 := some (min (B.bd + B.step) 4096) } else { B with bd := min (B.bd + B.step) 4096, c0 := some (min (B.bd + B.step) 4096) }
def Bt.press (B : Bt) : Bt := let A := if B.n = B.bd then B.write else B; { A with n := B.n + 1 }
/-- all but two places stays -/
def Keep2 (o c : Addr) (h h' : LH) : Prop := ∀ a u, a ≠ o → a ≠ c → h a = some u → h' a = some u
theorem Keep2.refl {o c : Addr} {h : LH} : Keep2 o c h h := fun _ _ _ _ e => e
theorem Keep2.up1 {o c : Addr} {h h' : LH} {u : LO} (k : Keep2 o c h h') : Keep2 o c h (up h' o u) := fun a w n1 n2 e => up_neq n1 (k a w n1 n2 e)
theorem Keep2.up2 {o c : Addr} {h h' : LH} {u : LO} (k : Keep2 o c h h') : Keep2 o c h (up h' c u) := fun a w n1 n2 e => up_neq n2 (k a w n1 n2 e)
theorem Keep2.trans {o c : Addr} {h h' h2 : LH} (k : Keep2 o c h h') (j : Keep2 o c h' h2) : Keep2 o c h h2 := fun a w n1 n2 e => j a w n1 n2 (k a w n1 n2 e)
theorem BtAt.ne {h : LH} {o c : Addr} {B : Bt} (b : BtAt h o c B) : o ≠ c := by
  intro e
  have h1 := b.ob
  have h2 := b.cl
  rw [e] at h1
  rw [h1] at h2
  cases h2
end VL

set_option Elab.async false
set_option linter.all false
set_option maxRecDepth 100000
set_option maxHeartbeats 2000000
namespace VL
open PySem PySem.Spec PyProof.Rows L2
/-! a row of the law's own: a button, its row of what was drawn, its count -/
structure Ow where
  e : Addr
  r : Addr
  o : Addr
  c : Addr
  B : Bt
def Ow.fp (p : Ow) : List Addr := [p.e, p.r, p.o, p.c]
structure Ow.ok (h : LH) (p : Ow) : Prop where
  he : h p.e = some (.lst [.ref p.o, .ref p.r, .int p.B.n])
  hr : h p.r = some (.lst [.str p.B.z, .tup (p.B.tab.map .int), .tup (p.B.key.map .int), .int p.B.age, .int p.B.step])
  hb : BtAt h p.o p.c p.B
  tl : p.B.tab.length = 16
  lo : Low p.B.z
theorem Ow.ok.mono {h h' : LH} {p : Ow} (k : ∀ a ∈ p.fp, ∀ u, h a = some u → h' a = some u) (q : p.ok h) : p.ok h' :=
  ⟨k _ (by simp [Ow.fp]) _ q.he, k _ (by simp [Ow.fp]) _ q.hr, ⟨k _ (by simp [Ow.fp]) _ q.hb.ob, k _ (by simp [Ow.fp]) _ q.hb.cl⟩, q.tl, q.lo⟩
theorem Ow.ok.there {h : LH} {p : Ow} (q : p.ok h) : ∀ a ∈ p.fp, ∃ u, h a = some u := by
  intro a ha
  simp only [Ow.fp, List.mem_cons, List.not_mem_nil, or_false] at ha
  rcases ha with rfl | rfl | rfl | rfl
  · exact ⟨_, q.he⟩
  · exact ⟨_, q.hr⟩
  · exact ⟨_, q.hb.ob⟩
  · exact ⟨_, q.hb.cl⟩
/-- the addresses of all rows -/
def fps (ps : List Ow) : List Addr := ps.flatMap Ow.fp
/-- M lists the rows; all stands apart, b too -/
structure Own (h : LH) (b M : Addr) (ps : List Ow) : Prop where
  hm : h M = some (.lst (ps.map fun p => .ref p.e))
  ok : ∀ p ∈ ps, p.ok h
  ap : ∀ (i j : Nat) (p r : Ow), ps[i]? = some p → ps[j]? = some r → i ≠ j → ∀ a ∈ p.fp, a ∉ r.fp
  sf : ∀ p ∈ ps, p.fp.Nodup
  out : ∀ p ∈ ps, ∀ a ∈ p.fp, a ≠ M ∧ a ≠ b
  bm : M ≠ b
theorem mem_fps {ps : List Ow} {p : Ow} {a : Addr} (hp : p ∈ ps) (ha : a ∈ p.fp) : a ∈ fps ps := List.mem_flatMap.mpr ⟨p, hp, ha⟩
/-- what happens elsewhere -/
theorem Own.mono {h h' : LH} {b M : Addr} {ps : List Ow} (k : ∀ a, a = M ∨ a ∈ fps ps → ∀ u, h a = some u → h' a = some u) (q : Own h b M ps) : Own h' b M ps :=
  ⟨k _ (.inl rfl) _ q.hm, fun p hp => (q.ok p hp).mono fun a ha => k a (.inr (mem_fps hp ha)), q.ap, q.sf, q.out, q.bm⟩
theorem Own.box {h h' : LH} {b M : Addr} {ps : List Ow} (k : Keep b h h') (q : Own h b M ps) : Own h' b M ps := by
  refine q.mono fun a ha u e => k a u ?_ e
  rcases ha with rfl | ha
  · exact q.bm
  · obtain ⟨p, hp, hf⟩ := List.mem_flatMap.mp ha
    exact (q.out p hp a hf).2
theorem Own.sub {h h' : LH} {b M : Addr} {ps : List Ow} (k : Sub h h') (q : Own h b M ps) : Own h' b M ps := q.mono fun a _ u e => k a u e
theorem getset {α : Type} {ps : List α} {i j : Nat} {r s : α} (h : (ps.set i r)[j]? = some s) : (i = j ∧ s = r ∧ i < ps.length) ∨ (i ≠ j ∧ ps[j]? = some s) := by
  rw [List.getElem?_set] at h
  by_cases e : i = j
  · rw [if_pos e] at h
    by_cases l : i < ps.length
    · rw [if_pos (by omega)] at h
      cases h
      exact .inl ⟨e, rfl, l⟩
    · rw [if_neg (by omega)] at h
      cases h
  · rw [if_neg e] at h
    exact .inr ⟨e, h⟩
/-- one row goes on -/
theorem Own.put {h h' : LH} {b M : Addr} {ps : List Ow} (q : Own h b M ps) {i : Nat} {p r : Ow} (hp : ps[i]? = some p) (hf : r.fp = p.fp) (he : r.e = p.e) (k : ∀ a u, a ∉ p.fp → h a = some u → h' a = some u) (hr : r.ok h') : Own h' b M (ps.set i r) := by
  have hm := List.mem_of_getElem? hp
  have fpm : ∀ s ∈ ps.set i r, ∃ s' ∈ ps, s.fp = s'.fp := fun s hs => by
    obtain ⟨j, hj⟩ := List.getElem?_of_mem hs
    rcases getset hj with ⟨_, rfl, _⟩ | ⟨_, hj⟩
    · exact ⟨p, hm, hf⟩
    · exact ⟨s, List.mem_of_getElem? hj, rfl⟩
  refine ⟨?_, fun s hs => ?_, fun j l s t hj hl hn => ?_, fun s hs => ?_, fun s hs => ?_, q.bm⟩
  · have e : (ps.set i r).map (fun p => LV.ref p.e) = ps.map fun p => LV.ref p.e := by
      apply List.ext_getElem?
      intro j
      rw [List.getElem?_map, List.getElem?_map]
      cases e1 : (ps.set i r)[j]? with
      | some s =>
        rcases getset e1 with ⟨rfl, rfl, _⟩ | ⟨_, hj⟩
        · rw [hp]
          show some (LV.ref s.e) = some (LV.ref p.e)
          rw [he]
        · rw [hj]
      | none =>
        have l1 := List.getElem?_eq_none_iff.mp e1
        rw [List.length_set] at l1
        rw [List.getElem?_eq_none l1]
    rw [e]
    exact k _ _ (fun hc => (q.out p hm M hc).1 rfl) q.hm
  · obtain ⟨j, hj⟩ := List.getElem?_of_mem hs
    rcases getset hj with ⟨_, rfl, _⟩ | ⟨n, hj⟩
    · exact hr
    · exact (q.ok s (List.mem_of_getElem? hj)).mono fun a ha u e => k a u (fun hc => q.ap i j p s hp hj n a hc ha) e
  · rcases getset hj with ⟨rfl, rfl, _⟩ | ⟨n1, hj⟩
    · rcases getset hl with ⟨rfl, _, _⟩ | ⟨n2, hl⟩
      · exact absurd rfl hn
      · rw [hf]; exact q.ap i l p t hp hl hn
    · rename_i hj0
      clear hj0
      rcases getset hl with ⟨rfl, rfl, _⟩ | ⟨n2, hl2⟩
      · rw [hf]; exact q.ap j i s p hj hp hn
      · exact q.ap j l s t hj hl2 hn
  · obtain ⟨s', hs', e⟩ := fpm s hs
    rw [e]; exact q.sf s' hs'
  · obtain ⟨s', hs', e⟩ := fpm s hs
    rw [e]; exact q.out s' hs'
/-- one more row -/
theorem Own.add {h h' : LH} {b M : Addr} {ps : List Ow} (q : Own h b M ps) {r : Ow} (k : ∀ a u, a ≠ M → a ≠ b → h a = some u → h' a = some u) (hm : h' M = some (.lst (ps.map (fun p => LV.ref p.e) ++ [.ref r.e]))) (hr : r.ok h') (nw : ∀ a ∈ r.fp, h a = none) (sf : r.fp.Nodup) (nb : ∀ a ∈ r.fp, a ≠ b) : Own h' b M (ps ++ [r]) := by
  have old : ∀ p ∈ ps, ∀ a ∈ p.fp, a ∉ r.fp := fun p hp a ha hc => by
    obtain ⟨u, e⟩ := (q.ok p hp).there a ha
    rw [nw a hc] at e
    cases e
  refine ⟨?_, fun s hs => ?_, fun j l s t hj hl hn => ?_, fun s hs => ?_, fun s hs => ?_, q.bm⟩
  · rw [hm, List.map_append]; rfl
  · rcases List.mem_append.mp hs with hs | hs
    · exact (q.ok s hs).mono fun a ha u e => k a u (q.out s hs a ha).1 (q.out s hs a ha).2 e
    · rw [List.mem_singleton.mp hs]; exact hr
  · rw [List.getElem?_append] at hj hl
    split at hj
    · split at hl
      · exact q.ap j l s t hj hl hn
      · have := List.mem_singleton.mp (List.mem_of_getElem? hl)
        subst this
        exact old s (List.mem_of_getElem? hj)
    · have e1 := List.mem_singleton.mp (List.mem_of_getElem? hj)
      subst e1
      split at hl
      · exact fun a ha hc => old t (List.mem_of_getElem? hl) a hc ha
      · exfalso
        have a1 := (List.getElem?_eq_some_iff.mp hj).1
        have a2 := (List.getElem?_eq_some_iff.mp hl).1
        simp only [List.length_cons, List.length_nil] at a1 a2
        omega
  · rcases List.mem_append.mp hs with hs | hs
    · exact q.sf s hs
    · rw [List.mem_singleton.mp hs]; exact sf
  · rcases List.mem_append.mp hs with hs | hs
    · exact q.out s hs
    · rw [List.mem_singleton.mp hs]
      refine fun a ha => ⟨fun e => ?_, nb a ha⟩
      have := nw a ha
      rw [e, q.hm] at this
      cases this
theorem Alike.press {n : Nat} {h : LH} {tab key : List Int} {z : Str} {age count deed : Int} : Alike (n + 3) h (pressF tab key z age count deed) (pressF tab key z age count deed) :=
  .inr (.inl ⟨_, _, rfl, rfl, rfl, by show 3 ≤ 100000; decide, fun i a b ea eb => by
    rw [ea] at eb
    cases eb
    have hm := List.mem_of_getElem? ea
    simp only [List.mem_cons, List.not_mem_nil, or_false] at hm
    rcases hm with rfl | rfl | rfl
    · exact .str _
    · exact .int _
    · exact .ints (by rw [codedF_length, List.length_append]; show 4 + 1 ≤ 100000; decide)⟩)
theorem Own.item {h : LH} {b M : Addr} {ps : List Ow} (q : Own h b M ps) {v : Int} (h0 : 0 ≤ v) (h1 : v < ps.length) : ∃ p, ps[v.toNat]? = some p ∧ p ∈ ps ∧ atI (ps.map fun p => LV.ref p.e) v = some (.ref p.e) := by
  have hz : v.toNat < ps.length := by omega
  refine ⟨ps[v.toNat], List.getElem?_eq_getElem hz, List.getElem_mem hz, ?_⟩
  rw [atI_nat h0 (by rw [List.length_map]; exact h1), List.getElem?_map, List.getElem?_eq_getElem hz]
  rfl
theorem Bt.press_same (B : Bt) : B.press.z = B.z ∧ B.press.tab = B.tab ∧ B.press.key = B.key ∧ B.press.age = B.age ∧ B.press.step = B.step ∧ B.press.n = B.n + 1 := by
  unfold Bt.press Bt.write
  dsimp only
  split
  · split <;> exact ⟨rfl, rfl, rfl, rfl, rfl, rfl⟩
  · exact ⟨rfl, rfl, rfl, rfl, rfl, rfl⟩
theorem Alike.three {n : Nat} {h : LH} {z : Str} {i j : Int} : Alike (n + 2) h (.tup [.str z, .int i, .int j]) (.tup [.str z, .int i, .int j]) :=
  .inr (.inl ⟨_, _, rfl, rfl, rfl, by show 3 ≤ 100000; decide, fun k a b ea eb => by
    rw [ea] at eb
    cases eb
    have hm := List.mem_of_getElem? ea
    simp only [List.mem_cons, List.not_mem_nil, or_false] at hm
    rcases hm with rfl | rfl | rfl
    · exact .str _
    · exact .int _
    · exact .int _⟩)
theorem BoxN.keep2 {h h1 : LH} {b o c : Addr} {n : Int} (k : Keep2 o c h h1) (n1 : b ≠ o) (n2 : b ≠ c) (q : BoxN h b n) : BoxN h1 b n := by
  obtain ⟨x, y, z, q, r⟩ := q
  exact ⟨x, y, z, k _ _ n1 n2 q, r⟩
end VL

set_option Elab.async false
set_option linter.all false
set_option maxRecDepth 100000
set_option maxHeartbeats 2000000
namespace VL
open PySem PySem.Spec PyProof.Rows L2
/-! ### dict displays -/
def lPairs : List (LTE × LTE) → LS → LH → LX → (List (LV × LV) → LH → Prop) → Prop
  | [], _, h, _, L => L [] h
  | (tk, tv) :: r, s, h, E, L => tk s h E fun x h1 => tv s h1 E fun y h2 => lPairs r s h2 E fun ps h3 => L ((x, y) :: ps) h3
def keyed : List (LV × LV) → Option (List (Key × LV))
  | [] => some []
  | (x, y) :: r => match keyOf x, keyed r with
    | some k, some kvs => some ((k, y) :: kvs)
    | _, _ => none
def mergeL (kvs more : List (Key × LV)) : List (Key × LV) := more.foldl (fun acc kv => dput acc kv.1 kv.2) kvs
def lDisp (trs : List (LTE × LTE)) : LTE := fun s h E L => ∀ p, h p = none → lPairs trs s (up h p (.dic [])) E fun ps h2 => h2 p = some (.dic []) ∧ ∃ kvs, keyed ps = some kvs ∧ kvs.length ≤ 15 ∧ L (.ref p) (up h2 p (.dic (mergeL [] kvs)))
def lDNew : LTE := fun _ h _ L => ∀ p, h p = none → L (.ref p) (up h p (.dic []))
section
variable {X : Cx} {W : WX} {pos : Pos}
theorem le_dnew : LE X W (.Dict [] [] pos) lDNew := peW pe_dnewK fun σ H Q ⟨s, h, E, L, z, hl, o⟩ => fun p hp => o _ _ (.ref p) _ (.new hp) (z.rh.lay hp (.mkD upd_same .nil)) (.ref p) (hl p (z.rh.fresh hp))
abbrev LPs (X : Cx) (W : WX) (pos : Pos) (ks : List (Option Expr)) (vs : List Expr) (trs : List (LTE × LTE)) : Prop := PPs X pos ks vs (trs.map fun q => (upE X.K W q.1, upE X.K W q.2))
theorem lps_nil : LPs X W pos [] [] [] := pps_nil
theorem lps_cons {k v : Expr} {ks : List (Option Expr)} {vs : List Expr} {tk tv : LTE} {trs : List (LTE × LTE)} (hk : LE X W k tk) (hv : LE X W v tv) (hr : LPs X W pos ks vs trs) : LPs X W pos (some k :: ks) (v :: vs) ((tk, tv) :: trs) := pps_cons hk hv hr
/-- pairs as they are told -/
def RPs (K : PySem.W.Frag) (H : Hp) : List (LV × LV) → List (V × V) → Prop
  | [], [] => True
  | (x, y) :: r, (v, w) :: q => RV K H x v ∧ RV K H y w ∧ RPs K H r q
  | _, _ => False
theorem RPs.mono {K : PySem.W.Frag} {H H' : Hp} (t : TLe K H H') : ∀ {a : List (LV × LV)} {b : List (V × V)}, RPs K H a b → RPs K H' a b
  | [], [], _ => trivial
  | _ :: _, _ :: _, q => ⟨q.1.mono t, q.2.1.mono t, RPs.mono t q.2.2⟩
theorem pairs_imp : ∀ (trs : List (LTE × LTE)) (σ : L2.St) (H : Hp) (Q : List (V × V) → Hp → Prop) (s : LS) (h : LH) (E : LX) (L : List (LV × LV) → LH → Prop), Sit X.K W σ H s h E → lPairs trs s h E L →
    (∀ ps H' qs h', TLe X.K H H' → RH X.K H' h' → RPs X.K H' qs ps → L qs h' → Q ps H') → tPairs (trs.map fun q => (upE X.K W q.1, upE X.K W q.2)) σ H Q
  | [], σ, H, Q, s, h, E, L, z, hl, o => o [] H [] h (.refl H) z.rh trivial hl
  | (tk, tv) :: r, σ, H, Q, s, h, E, L, z, hl, o => ⟨s, h, E, _, z, hl, fun v H1 x h1 t1 r1 rx q1 => ⟨s, h1, E, _, z.step t1 r1, q1, fun w H2 y h2 t2 r2 ry q2 =>
      pairs_imp r σ H2 _ s h2 E _ (z.step (t1.trans t2) r2) q2 fun ps H3 qs h3 t3 r3 rp q3 => o _ H3 ((x, y) :: qs) h3 ((t1.trans t2).trans t3) r3 ⟨(rx.mono t2).mono t3, ry.mono t3, rp⟩ q3⟩⟩
theorem keyed_ok {K : PySem.W.Frag} {H : Hp} : ∀ {qs : List (LV × LV)} {ps : List (V × V)} {kvs : List (Key × LV)}, RPs K H qs ps → keyed qs = some kvs → ∃ ws : List (Key × V), ps = ws.map (fun kv => (kV kv.1, kv.2)) ∧ RKs K H id kvs ws
  | [], [], _, _, e => by cases e; exact ⟨[], rfl, .nil⟩
  | (x, y) :: r, (v, w) :: q, kvs, rp, e => by
    unfold keyed at e
    split at e
    · rename_i k kvs' e1 e2
      cases e
      obtain ⟨ws, e3, r3⟩ := keyed_ok rp.2.2 e2
      have e4 := keyOf_ok rp.1 e1
      subst e4
      exact ⟨(k, w) :: ws, by rw [e3]; rfl, .cons rp.2.1 r3⟩
    · cases e
theorem merge_ok {K : PySem.W.Frag} {H : Hp} : ∀ {more : List (Key × LV)} {ms : List (Key × V)} {kvs : List (Key × LV)} {ws : List (Key × V)}, RKs K H id more ms → RKs K H id kvs ws → RKs K H id (mergeL kvs more) (mergeK ws ms)
  | [], _, _, _, .nil, q => q
  | (k, x) :: r, _, kvs, ws, .cons (v := v) (m := m) a b, q => by
    have e := merge_ok (more := r) (ms := m) (kvs := dput kvs k x) (ws := putK ws k v) b (RKs.dput a q)
    exact e
theorem RKs.mono' {K : PySem.W.Frag} {H H' : Hp} {xs : List (Key × LV)} {vs : List (Key × V)} (t : TLe K H H') (r : RKs K H id xs vs) : RKs K H' id xs vs := r.mono t
theorem le_disp {keys : List (Option Expr)} {values : List Expr} {trs : List (LTE × LTE)} (h : LPs X W pos keys values trs) (hall : keys.all (·.isSome) = true := by rfl) (hl : keys.length = values.length := by rfl) (h0 : keys ≠ [] := by exact List.cons_ne_nil _ _)
    (h15 : keys.length ≤ 15 := by decide) : LE X W (.Dict keys values pos) (lDisp trs) :=
  peW (pe_disp h hall hl h0 h15) fun σ H Q ⟨s, h, E, L, z, hl, o⟩ => fun p hp => by
    have t0 : TLe X.K H (upd H p (.dK [])) := .new hp
    refine pairs_imp trs σ _ _ s (up h p (.dic [])) E _ (z.step t0 (z.rh.lay hp (.mkD upd_same .nil))) (hl p (z.rh.fresh hp)) fun ps H2 qs h2 t2 r2 rp ⟨e2, kvs, ek, hk, q2⟩ => ?_
    obtain ⟨ws0, e3, r3⟩ := r2 p _ e2
    cases r3
    obtain ⟨ws, e4, r4⟩ := keyed_ok rp ek
    refine ⟨e3, ws, e4, by rw [← r4.length]; exact hk, ?_⟩
    exact o _ _ (.ref p) _ ((t0.trans t2).trans (.dK e3)) (r2.upd (.dK e3) (.mkD upd_same ((merge_ok r4 .nil).mono (.dK e3)))) (.ref p) q2
/-! ### d.get, d.pop -/
def lDicA (x : LV) (h : LH) : Prop := match x with
  | .ref a => (match h a with
    | some (.dic _) => True
    | _ => False)
  | _ => False
def gDGet (z : Option LV) : LR2 := fun x y h L => match x with
  | .ref a => (match h a with
    | some (.dic kvs) => (match keyOf y with
      | some k => L ((dget kvs k).getD (z.getD .non)) h
      | none => False)
    | _ => False)
  | _ => False
def gDPop : LR2 := fun x y h L => match x with
  | .ref a => (match h a with
    | some (.dic kvs) => (match keyOf y with
      | some k => (match dget kvs k with
        | some v => L v (up h a (.dic (ddrop kvs k)))
        | none => False)
      | none => False)
    | _ => False)
  | _ => False
def lDGet1 (lo lk : LTE) : LTE := fun s h E L => lo s h E fun x h1 => lDicA x h1 ∧ lk s h1 E fun y h2 => gDGet none x y h2 L
def lDGet2 (lo lk lz : LTE) : LTE := fun s h E L => lo s h E fun x h1 => lDicA x h1 ∧ lk s h1 E fun y h2 => lz s h2 E fun z h3 => gDGet (some z) x y h3 L
def lDPop1 (lo lk : LTE) : LTE := fun s h E L => lo s h E fun x h1 => lDicA x h1 ∧ lk s h1 E fun y h2 => gDPop x y h2 L
theorem dicA_ok {K : PySem.W.Frag} {H : Hp} {h : LH} {x : LV} {v : V} (rh : RH K H h) (r : RV K H x v) (d : lDicA x h) : ∃ a, v = .ref a ∧ IsD H a ∧ x = .ref a := by
  unfold lDicA at d
  split at d
  · rename_i a
    split at d
    · rename_i kvs e
      cases r
      obtain ⟨ws, e2, _⟩ := rh a _ e
      exact ⟨a, rfl, .inl ⟨ws, .inl e2⟩, rfl⟩
    · exact d.elim
  · exact d.elim
theorem dget_ok {K : PySem.W.Frag} {H : Hp} {h : LH} {a : Addr} {y z : LV} {u w : V} {L : LK} {Q : VK} (rh : RH K H h) (ry : RV K H y u) (rz : RV K H z w) (g : gDGet (some z) (.ref a) y h L) (o : OutV K H Q L) : ∃ r, DGet H a u r ∧ Q (r.getD w) H := by
  unfold gDGet at g
  dsimp only at g
  split at g
  · rename_i kvs e
    split at g
    · rename_i k ek
      obtain ⟨ws, e2, hr⟩ := rh a _ e
      have e3 := keyOf_ok ry ek
      subst e3
      refine ⟨_, DGet.k e2, ?_⟩
      obtain ⟨d1, d2⟩ := hr.dget (k := k)
      cases q : dget kvs k with
      | some x =>
        rw [q] at g
        obtain ⟨v, e4, rv⟩ := d1 x q
        rw [e4]
        exact o v H x h (.refl H) rh rv g
      | none =>
        rw [q] at g
        rw [d2 q]
        exact o w H z h (.refl H) rh rz g
    · exact g.elim
  · exact g.elim
section
variable {o e f : Expr} {lo lk lz : LTE} {apos cpos : Pos}
theorem le_dget1 (hu : X.A.units + 1 < cLine) (ho : LE X W o lo) (he : LE X W e lk) (m : M1 X o "get" apos e cpos := by exact ⟨rfl, rfl, rfl, rfl⟩) : LE X W (.Call (.Attribute o "get" apos) [e] [] cpos) (lDGet1 lo lk) :=
  peW (pe_dget1 hu ho he m) fun σ H Q ⟨s, h, E, L, z, hl, out⟩ => ⟨s, h, E, _, z, hl, fun v H1 x h1 t1 r1 rx q1 => by
    obtain ⟨a, rfl, hd, rfl⟩ := dicA_ok r1 rx q1.1
    exact ⟨a, rfl, hd, s, h1, E, _, z.step t1 r1, q1.2, fun u H2 y h2 t2 r2 ry q2 => dget_ok r2 ry .non q2 (out.step (t1.trans t2))⟩⟩
theorem le_dget2 (hu : X.A.units + 1 < cLine) (ho : LE X W o lo) (he : LE X W e lk) (hf : LE X W f lz) (m : M2 X o "get" apos e f cpos := by exact ⟨rfl, rfl, rfl, rfl⟩) : LE X W (.Call (.Attribute o "get" apos) [e, f] [] cpos) (lDGet2 lo lk lz) :=
  peW (pe_dget2 hu ho he hf m) fun σ H Q ⟨s, h, E, L, z, hl, out⟩ => ⟨s, h, E, _, z, hl, fun v H1 x h1 t1 r1 rx q1 => by
    obtain ⟨a, rfl, hd, rfl⟩ := dicA_ok r1 rx q1.1
    exact ⟨a, rfl, hd, s, h1, E, _, z.step t1 r1, q1.2, fun u H2 y h2 t2 r2 ry q2 => ⟨s, h2, E, _, z.step (t1.trans t2) r2, q2, fun w H3 y3 h3 t3 r3 rz q3 => dget_ok r3 (ry.mono t3) rz q3 (out.step ((t1.trans t2).trans t3))⟩⟩⟩
theorem le_dpop1 (ho : LE X W o lo) (he : LE X W e lk) (m : M1 X o "pop" apos e cpos := by exact ⟨rfl, rfl, rfl, rfl⟩) : LE X W (.Call (.Attribute o "pop" apos) [e] [] cpos) (lDPop1 lo lk) :=
  peW (pe_dpop1 ho he m) fun σ H Q ⟨s, h, E, L, z, hl, out⟩ => ⟨s, h, E, _, z, hl, fun v H1 x h1 t1 r1 rx q1 => by
    obtain ⟨a, rfl, hd, rfl⟩ := dicA_ok r1 rx q1.1
    refine ⟨a, rfl, hd, s, h1, E, _, z.step t1 r1, q1.2, fun u H2 y h2 t2 r2 ry q2 => ?_⟩
    unfold gDPop at q2
    dsimp only at q2
    split at q2
    · rename_i kvs e
      split at q2
      · rename_i k ek
        obtain ⟨ws, e2, hr⟩ := r2 a _ e
        have e3 := keyOf_ok ry ek
        subst e3
        split at q2
        · rename_i x qd
          obtain ⟨w, e4, rv⟩ := (hr.dget (k := k)).1 x qd
          exact ⟨ws, k, w, e2, rfl, e4, out w _ x _ ((t1.trans t2).trans (.dK e2)) (r2.upd (.dK e2) (.mkD upd_same (hr.ddrop.mono (.dK e2)))) (rv.mono (.dK e2)) q2⟩
        · exact q2.elim
      · exact q2.elim
    · exact q2.elim⟩
end
end
section
variable {s : LS} {h : LH} {E : LX} {L : LK} {lo lk lz tk tv : LTE} {trs : List (LTE × LTE)} {a p : Addr} {x y v z : LV} {kvs kvs2 : List (Key × LV)} {k : Key} {LP : List (LV × LV) → LH → Prop} {ps : List (LV × LV)}
theorem i_disp (q : ∀ p, h p = none → lPairs trs s (up h p (.dic [])) E fun ps h2 => h2 p = some (.dic []) ∧ ∃ kvs, keyed ps = some kvs ∧ kvs.length ≤ 15 ∧ L (.ref p) (up h2 p (.dic (mergeL [] kvs)))) : lDisp trs s h E L := q
theorem i_prN (q : LP [] h) : lPairs [] s h E LP := q
instance st_i_prN  : Stp (lPairs [] s h E LP) (LP [] h) := ⟨i_prN⟩
theorem i_prC (q : tk s h E fun x h1 => tv s h1 E fun y h2 => lPairs trs s h2 E fun ps h3 => LP ((x, y) :: ps) h3) : lPairs ((tk, tv) :: trs) s h E LP := q
instance st_i_prC  : Stp (lPairs ((tk, tv) :: trs) s h E LP) (tk s h E fun x h1 => tv s h1 E fun y h2 => lPairs trs s h2 E fun ps h3 => LP ((x, y) :: ps) h3) := ⟨i_prC⟩
theorem i_dispE {Q : List (Key × LV) → Prop} (e : h p = some (.dic [])) (ek : keyed ps = some kvs) (hl : kvs.length ≤ 15) (q : Q kvs) : h p = some (.dic []) ∧ ∃ kvs, keyed ps = some kvs ∧ kvs.length ≤ 15 ∧ Q kvs := ⟨e, kvs, ek, hl, q⟩
theorem i_dnew (q : ∀ p, h p = none → L (.ref p) (up h p (.dic []))) : lDNew s h E L := q
theorem i_dget1 (q : lo s h E fun x h1 => lDicA x h1 ∧ lk s h1 E fun y h2 => gDGet none x y h2 L) : lDGet1 lo lk s h E L := q
instance st_i_dget1  : Stp (lDGet1 lo lk s h E L) (lo s h E fun x h1 => lDicA x h1 ∧ lk s h1 E fun y h2 => gDGet none x y h2 L) := ⟨i_dget1⟩
theorem i_dget2 (q : lo s h E fun x h1 => lDicA x h1 ∧ lk s h1 E fun y h2 => lz s h2 E fun z h3 => gDGet (some z) x y h3 L) : lDGet2 lo lk lz s h E L := q
instance st_i_dget2  : Stp (lDGet2 lo lk lz s h E L) (lo s h E fun x h1 => lDicA x h1 ∧ lk s h1 E fun y h2 => lz s h2 E fun z h3 => gDGet (some z) x y h3 L) := ⟨i_dget2⟩
theorem i_dpop1 (q : lo s h E fun x h1 => lDicA x h1 ∧ lk s h1 E fun y h2 => gDPop x y h2 L) : lDPop1 lo lk s h E L := q
instance st_i_dpop1  : Stp (lDPop1 lo lk s h E L) (lo s h E fun x h1 => lDicA x h1 ∧ lk s h1 E fun y h2 => gDPop x y h2 L) := ⟨i_dpop1⟩
theorem i_dicA {Q : Prop} (e : h a = some (.dic kvs)) (q : Q) : lDicA (.ref a) h ∧ Q := ⟨by unfold lDicA; dsimp only; rw [e]; trivial, q⟩
theorem i_dgetG {zo : Option LV} {r : LV} (e : h a = some (.dic kvs)) (ek : keyOf y = some k) (er : (dget kvs k).getD (zo.getD .non) = r) (q : L r h) : gDGet zo (.ref a) y h L := by
  unfold gDGet
  dsimp only
  rw [e]
  dsimp only
  rw [ek]
  dsimp only
  rw [er]
  exact q
theorem i_dpopG (e : h a = some (.dic kvs)) (ek : keyOf y = some k) (er : dget kvs k = some v) (q : L v (up h a (.dic (ddrop kvs k)))) : gDPop (.ref a) y h L := by
  unfold gDPop
  dsimp only
  rw [e]
  dsimp only
  rw [ek]
  dsimp only
  rw [er]
  exact q
end
/-! ### comprehensions with a test -/
def cF (m : Nat) (D : Addr) (Q : Addr → Nat → List LV → LH → Prop) (i : Nat) (h' : LH) : Prop := i ≤ m ∧ ∃ acc, acc.length ≤ i ∧ h' D = some (.lst acc) ∧ Q D i acc h'
def cFApp (m : Nat) (D : Addr) (Q : Addr → Nat → List LV → LH → Prop) (i : Nat) (y : LV) (h4 : LH) : Prop := match h4 D with
  | some (.lst acc) => acc.length < 100000 ∧ cF m D Q (i + 1) (up h4 D (.lst (acc ++ [y])))
  | _ => False
theorem cF.mk {m : Nat} {D : Addr} {Q : Addr → Nat → List LV → LH → Prop} {i : Nat} {h4 : LH} {acc : List LV} (hl : acc.length ≤ i) (hi : i < m) (e : h4 D = some (.lst acc)) (q : Q D (i + 1) acc h4) : cF m D Q (i + 1) h4 := ⟨hi, acc, by omega, e, q⟩
theorem cFApp.mk {m : Nat} {D : Addr} {Q : Addr → Nat → List LV → LH → Prop} {i : Nat} {y : LV} {h4 : LH} {acc : List LV} (hl : acc.length ≤ i) (hi : i < m) (hz : m ≤ 100000) (e : h4 D = some (.lst acc)) (q : Q D (i + 1) (acc ++ [y]) (up h4 D (.lst (acc ++ [y])))) : cFApp m D Q i y h4 := by
  unfold cFApp
  rw [e]
  exact ⟨by omega, hi, acc ++ [y], by rw [List.length_append]; simp; omega, up_same, q⟩
theorem lc_filt {nt : NT} {lt : LTT} {le : LTE} {vs : List Nat} {s : LS} {h : LH} {L : LK} {it : LIt} {m : Nat} {item : Nat → LV} {f : LV → LS} (Q : Addr → Nat → List LV → LH → Prop) (hit : ∀ D i acc h', h D = none → h' D = some (.lst acc) → Q D i acc h' → it i h' = if i < m then some (some (item i)) else some none) (ef : ∀ i, nt.put (item i) (lwipe s vs) = some (f (item i)))
    (q0 : ∀ D, h D = none → Q D 0 [] (up h D (.lst [])))
    (step : ∀ D i acc h', h D = none → i < m → acc.length ≤ i → h' D = some (.lst acc) → Q D i acc h' → lt (f (item i)) h' X0 fun b h3 => if b = true then le (f (item i)) h3 X0 (cFApp m D Q i) else cF m D Q (i + 1) h3)
    (stop : ∀ D acc h', h D = none → acc.length ≤ m → h' D = some (.lst acc) → Q D m acc h' → L (.ref D) h') : kLc nt lt le vs s it h L := by
  intro D hD
  refine ⟨m, cF m D Q, ⟨Nat.zero_le _, [], Nat.le_refl _, up_same, q0 D hD⟩, fun i h' ⟨hi, acc, hl, ha, hq⟩ => ?_⟩
  rw [hit D i acc h' hD ha hq]
  by_cases hlt : i < m
  · rw [if_pos hlt]
    refine ⟨hlt, ?_⟩
    rw [ef]
    exact step D i acc h' hD hlt hl ha hq
  · rw [if_neg hlt]
    have e : i = m := by omega
    subst e
    exact stop D acc h' hD hl ha hq
/-! ### a law's own state of a button, as a dict -/
def dd (n bd : Int) (c : Addr) (step : Int) : List (Key × LV) := [(.inr "count", .int n), (.inr "bound", .int bd), (.inr "cells", .ref c), (.inr "step", .int step)]
theorem dput_count {n bd step m : Int} {c : Addr} : dput (dd n bd c step) (.inr "count") (.int m) = dd m bd c step := rfl
theorem dput_bound {n bd step m : Int} {c : Addr} : dput (dd n bd c step) (.inr "bound") (.int m) = dd n m c step := rfl
structure DtAt (h : LH) (d c : Addr) (B : Bt) : Prop where
  dc : h d = some (.dic (dd B.n B.bd c B.step))
  cl : h c = some (.lst [cv B.c0, cv B.c1])
theorem DtAt.ne {h : LH} {d c : Addr} {B : Bt} (b : DtAt h d c B) : d ≠ c := by
  intro e
  have h1 := b.dc
  have h2 := b.cl
  rw [e] at h1
  rw [h1] at h2
  cases h2
end VL

set_option Elab.async false
set_option linter.all false
set_option maxRecDepth 100000
set_option maxHeartbeats 2000000
namespace VL
open PySem PySem.Spec PyProof.Rows L2
/-! ### what is told, in parts that stand apart -/
abbrev HP := LH → Prop
def dj (h1 h2 : LH) : Prop := ∀ a, h1 a = none ∨ h2 a = none
def un (h1 h2 : LH) : LH := fun a => match h1 a with
  | some o => some o
  | none => h2 a
def star (P Q : HP) : HP := fun h => ∃ h1 h2, dj h1 h2 ∧ h = un h1 h2 ∧ P h1 ∧ Q h2
def pts (a : Addr) (o : LO) : HP := fun h => h a = some o
def stars : List HP → HP
  | [] => fun _ => True
  | P :: Ps => star P (stars Ps)
section
variable {h h1 h2 h3 : LH} {P Q R : HP} {Ps Qs Rs : List HP} {a b p : Addr} {o u : LO}
theorem un_l {a : Addr} {o : LO} (e : h1 a = some o) : un h1 h2 a = some o := by unfold un; rw [e]
theorem un_r {a : Addr} (e : h1 a = none) : un h1 h2 a = h2 a := by unfold un; rw [e]
theorem dj.symm (d : dj h1 h2) : dj h2 h1 := fun a => (d a).symm
theorem un_comm (d : dj h1 h2) : un h1 h2 = un h2 h1 := by
  funext a
  rcases d a with e | e
  · rw [un_r e]
    cases q : h2 a with
    | none => rw [un_r q, e]
    | some o => rw [un_l q]
  · rw [un_r (h1 := h2) e]
    cases q : h1 a with
    | none => rw [un_r q, e]
    | some o => rw [un_l q]
theorem un_assoc : un (un h1 h2) h3 = un h1 (un h2 h3) := by
  funext a
  unfold un
  cases h1 a <;> rfl
theorem un_none {a : Addr} (e : un h1 h2 a = none) : h1 a = none ∧ h2 a = none := by
  unfold un at e
  cases q : h1 a with
  | none => rw [q] at e; exact ⟨rfl, e⟩
  | some o => rw [q] at e; cases e
theorem dj_un : dj h1 (un h2 h3) ↔ dj h1 h2 ∧ dj h1 h3 := by
  constructor
  · intro d
    refine ⟨fun a => ?_, fun a => ?_⟩
    · rcases d a with e | e
      · exact .inl e
      · exact .inr (un_none e).1
    · rcases d a with e | e
      · exact .inl e
      · exact .inr (un_none e).2
  · rintro ⟨d, d'⟩ a
    rcases d a with e | e
    · exact .inl e
    · rcases d' a with e' | e'
      · exact .inl e'
      · exact .inr (by rw [un_r e, e'])
theorem star_mono (f : ∀ h, P h → Q h) {P' Q' : HP} (g : ∀ h, P' h → Q' h) (s : star P P' h) : star Q Q' h := by
  obtain ⟨h1, h2, d, e, p, q⟩ := s
  exact ⟨h1, h2, d, e, f _ p, g _ q⟩
theorem star_swap (s : star P (star Q R) h) : star Q (star P R) h := by
  obtain ⟨h1, _, d, rfl, p, h2, h3, d2, rfl, q, r⟩ := s
  obtain ⟨d12, d13⟩ := dj_un.mp d
  refine ⟨h2, un h1 h3, dj_un.mpr ⟨d12.symm, d2⟩, ?_, q, h1, h3, d13, rfl, p, r⟩
  rw [← un_assoc, ← un_assoc, un_comm d12]
theorem star_assoc (s : star (star P Q) R h) : star P (star Q R) h := by
  obtain ⟨_, h3, d, rfl, ⟨h1, h2, d2, rfl, p, q⟩, r⟩ := s
  have d' := dj_un.mp d.symm
  exact ⟨h1, un h2 h3, dj_un.mpr ⟨d2, d'.1.symm⟩, un_assoc, p, h2, h3, d'.2.symm, rfl, q, r⟩
theorem star_assoc' (s : star P (star Q R) h) : star (star P Q) R h := by
  obtain ⟨h1, _, d, rfl, p, h2, h3, d2, rfl, q, r⟩ := s
  obtain ⟨d12, d13⟩ := dj_un.mp d
  exact ⟨un h1 h2, h3, (dj_un.mpr ⟨d13.symm, d2.symm⟩).symm, un_assoc.symm, ⟨h1, h2, d12, rfl, p, q⟩, r⟩
def mns (h' h1 : LH) : LH := fun a => match h1 a with
  | some _ => none
  | none => h' a
theorem mns_n {h' : LH} {a : Addr} (e : h1 a = none) : mns h' h1 a = h' a := by unfold mns; rw [e]
theorem mns_s {h' : LH} {a : Addr} {o : LO} (e : h1 a = some o) : mns h' h1 a = none := by unfold mns; rw [e]
theorem stars_sub : ∀ {Ps : List HP} {h h' : LH}, Sub h h' → stars Ps h → stars Ps h'
  | [], _, _, _, _ => trivial
  | P :: Ps, h, h', s, ⟨h1, h2, d, e, p, q⟩ => by
    subst e
    refine ⟨h1, mns h' h1, fun a => ?_, ?_, p, stars_sub (h := h2) (fun a o e => ?_) q⟩
    · cases e : h1 a with
      | none => exact .inl rfl
      | some o => exact .inr (mns_s e)
    · funext a
      cases e : h1 a with
      | none => rw [un_r e, mns_n e]
      | some o => rw [un_l e]; exact s a o (un_l e)
    · rcases d a with e2 | e2
      · rw [mns_n e2]
        exact s a o (by rw [un_r e2]; exact e)
      · rw [e2] at e; cases e
theorem stars_drop (s : stars (P :: Ps) h) : stars Ps h := by
  obtain ⟨h1, h2, d, rfl, p, q⟩ := s
  exact stars_sub (fun a o e => by rw [un_comm d]; exact un_l e) q
theorem stars_app (s : star (stars Qs) (stars Ps) h) : stars (Qs ++ Ps) h := by
  induction Qs generalizing h with
  | nil =>
    obtain ⟨h1, h2, d, rfl, p, q⟩ := s
    exact stars_sub (fun a o e => by rw [un_comm d]; exact un_l e) q
  | cons Q Qs ih => exact star_mono (fun _ x => x) (fun _ => ih) (star_assoc s)
theorem stars_app' (s : stars (Qs ++ Ps) h) : star (stars Qs) (stars Ps) h := by
  induction Qs generalizing h with
  | nil => exact ⟨fun _ => none, h, fun _ => .inl rfl, by funext a; rfl, trivial, s⟩
  | cons Q Qs ih => exact star_assoc' (star_mono (fun _ x => x) (fun _ => ih) s)
/-- one part out of the rest -/
inductive Pk : List HP → HP → List HP → Prop
  | here {P : HP} {Ps : List HP} : Pk (P :: Ps) P Ps
  | there {R P : HP} {Ps Qs : List HP} : Pk Ps P Qs → Pk (R :: Ps) P (R :: Qs)
theorem Pk.out {h : LH} {Ps Qs : List HP} {P : HP} (k : Pk Ps P Qs) : stars Ps h → stars (P :: Qs) h := by
  induction k generalizing h with
  | here => exact fun s => s
  | there k ih => exact fun s => star_swap (star_mono (fun _ x => x) (fun _ => ih) s)
def Ent (A B : List HP) : Prop := ∀ h, stars A h → stars B h
theorem Ent.refl {A : List HP} : Ent A A := fun _ s => s
theorem Ent.trans {A B C : List HP} (e : Ent A B) (f : Ent B C) : Ent A C := fun h s => f h (e h s)
theorem Ent.nil {A : List HP} : Ent A [] := fun _ _ => trivial
theorem Ent.pk {A A' B : List HP} {P : HP} (k : Pk A P A') (e : Ent A' B) : Ent A (P :: B) := fun h s => star_mono (fun _ x => x) (fun _ => e _) (k.out s)
theorem Ent.pkE {A A' B : List HP} {a : Addr} {o o' : LO} (k : Pk A (pts a o') A') (q : o' = o) (e : Ent A' B) : Ent A (pts a o :: B) := by
  subst q
  exact Ent.pk k e
theorem Ent.imp {A A' B : List HP} {P Q : HP} (k : Pk A P A') (f : ∀ h, P h → Q h) (e : Ent A' B) : Ent A (Q :: B) := fun h s => star_mono f (fun _ => e _) (k.out s)
theorem Ent.drop {A B : List HP} {P : HP} (e : Ent A B) : Ent (P :: A) B := fun h s => e h (stars_drop s)
theorem Ent.cons {A B : List HP} {P : HP} (e : Ent A B) : Ent (P :: A) (P :: B) := Ent.pk .here e
/-- what lies where -/
theorem stars_get0 (s : stars (pts a o :: Ps) h) : h a = some o := by
  obtain ⟨h1, h2, d, rfl, p, q⟩ := s
  exact un_l p
theorem stars_get (s : stars Ps h) (k : Pk Ps (pts a o) Qs) : h a = some o := stars_get0 (k.out s)
theorem stars_up0 (s : stars (pts a o :: Ps) h) : stars (pts a u :: Ps) (up h a u) := by
  obtain ⟨h1, h2, d, rfl, p, q⟩ := s
  have n2 : h2 a = none := by
    rcases d a with e | e
    · unfold pts at p; rw [e] at p; cases p
    · exact e
  refine ⟨up h1 a u, h2, fun b => ?_, ?_, up_same, q⟩
  · by_cases e : b = a
    · rw [e]; exact .inr n2
    · rw [up_ne e]; exact d b
  · funext b
    by_cases e : b = a
    · rw [e, up_same, un_l up_same]
    · rw [up_ne e]
      unfold un
      rw [up_ne e]
theorem stars_up (s : stars Ps h) (k : Pk Ps (pts a o) Qs) : stars (pts a u :: Qs) (up h a u) := stars_up0 (k.out s)
theorem stars_new (n : h p = none) (s : stars Ps h) : stars (pts p o :: Ps) (up h p o) := by
  refine ⟨up (fun _ => none) p o, h, fun b => ?_, ?_, up_same, s⟩
  · by_cases e : b = p
    · rw [e]; exact .inr n
    · rw [up_ne e]; exact .inl rfl
  · funext b
    by_cases e : b = p
    · rw [e, up_same, un_l up_same]
    · rw [up_ne e, un_r (by rw [up_ne e])]
theorem stars_ne (s : stars (pts a o :: pts b u :: Ps) h) : a ≠ b := by
  obtain ⟨h1, h2, d, rfl, p, q⟩ := s
  have q := stars_get0 q
  rintro rfl
  rcases d a with e | e
  · unfold pts at p; rw [e] at p; cases p
  · rw [e] at q; cases q
/-- parts of parts -/
theorem stars_open (s : stars (stars Qs :: Ps) h) : stars (Qs ++ Ps) h := stars_app s
theorem stars_close (s : stars (Qs ++ Ps) h) : stars (stars Qs :: Ps) h := stars_app' s
theorem stars_ex {α : Sort _} {F : α → HP} (s : stars ((fun h => ∃ x, F x h) :: Ps) h) : ∃ x, stars (F x :: Ps) h := by
  obtain ⟨h1, h2, d, e, ⟨x, p⟩, q⟩ := s
  exact ⟨x, h1, h2, d, e, p, q⟩
theorem stars_pu {φ : Prop} (s : stars ((fun h => φ ∧ P h) :: Ps) h) : φ ∧ stars (P :: Ps) h := by
  obtain ⟨h1, h2, d, e, ⟨x, p⟩, q⟩ := s
  exact ⟨x, h1, h2, d, e, p, q⟩
theorem stars_imp (f : ∀ h, P h → Q h) (s : stars (P :: Ps) h) : stars (Q :: Ps) h := star_mono f (fun _ x => x) s
end
/-- a row of parts -/
def big {α : Type} (f : α → HP) (xs : List α) : HP := stars (xs.map f)
theorem big_out {α : Type} {f : α → HP} {xs : List α} {Ps : List HP} {h : LH} (s : stars (big f xs :: Ps) h) : stars (xs.map f ++ Ps) h := stars_app s
theorem big_in {α : Type} {f : α → HP} {xs : List α} {Ps : List HP} {h : LH} (s : stars (xs.map f ++ Ps) h) : stars (big f xs :: Ps) h := stars_app' s
theorem pk_mid {A B : List HP} {P : HP} : Pk (A ++ P :: B) P (A ++ B) := by
  induction A with
  | nil => exact .here
  | cons R A ih => exact .there ih
theorem pk_put {A B : List HP} {P : HP} {h : LH} (s : stars (P :: (A ++ B)) h) : stars (A ++ P :: B) h := by
  induction A generalizing h with
  | nil => exact s
  | cons R A ih => exact star_mono (fun _ x => x) (fun _ => ih) (star_swap s)
/-- one of the row, and what puts another one in its place -/
theorem big_pick {α : Type} {f : α → HP} {xs : List α} {Ps : List HP} {h : LH} {i : Nat} {x : α} (s : stars (big f xs :: Ps) h) (e : xs[i]? = some x) : ∃ R : HP, stars (f x :: R :: Ps) h ∧ ∀ y h' Qs, stars (f y :: R :: Qs) h' → stars (big f (xs.set i y) :: Qs) h' := by
  obtain ⟨hi, rfl⟩ := List.getElem?_eq_some_iff.mp e
  have sp : xs = xs.take i ++ xs[i] :: xs.drop (i + 1) := by rw [List.getElem_cons_drop, List.take_append_drop]
  have sm : xs.map f = (xs.take i).map f ++ f xs[i] :: (xs.drop (i + 1)).map f := by
    conv => lhs; rw [sp]
    rw [List.map_append, List.map_cons]
  refine ⟨stars ((xs.take i).map f ++ (xs.drop (i + 1)).map f), ?_, fun y h' Qs s' => ?_⟩
  · have s1 := big_out s
    rw [sm, List.append_assoc, List.cons_append] at s1
    have s2 := pk_mid.out s1
    rw [← List.append_assoc] at s2
    exact star_mono (fun _ x => x) (fun _ => stars_close) s2
  · refine big_in ?_
    have e2 : (xs.set i y).map f = (xs.take i).map f ++ f y :: (xs.drop (i + 1)).map f := by
      rw [List.set_eq_take_append_cons_drop, if_pos hi, List.map_append, List.map_cons]
    rw [e2, List.append_assoc, List.cons_append]
    refine pk_put ?_
    rw [← List.append_assoc]
    exact star_mono (fun _ x => x) (fun _ => stars_open) s'
theorem set_same {α : Type} {xs : List α} {i : Nat} {x : α} (e : xs[i]? = some x) : xs.set i x = xs := by
  obtain ⟨hi, rfl⟩ := List.getElem?_eq_some_iff.mp e
  exact List.set_getElem_self hi
theorem big_nil {α : Type} {f : α → HP} {Ps : List HP} {h : LH} (s : stars Ps h) : stars (big f ([] : List α) :: Ps) h := stars_app' s
theorem big_snoc {α : Type} {f : α → HP} {xs : List α} {x : α} {Ps : List HP} {h : LH} (s : stars (f x :: big f xs :: Ps) h) : stars (big f (xs ++ [x]) :: Ps) h := by
  refine big_in ?_
  rw [List.map_append, List.append_assoc]
  refine pk_put ?_
  exact star_mono (fun _ x => x) (fun _ => big_out) s
end VL

set_option Elab.async false
set_option linter.all false
set_option maxRecDepth 100000
set_option maxHeartbeats 2000000
namespace VL
open PySem PySem.Spec PyProof.Rows L2
/-! ### head rules over parts that stand apart -/
def cNew (o : LO) (L : LK) (h : LH) : Prop := ∀ p, h p = none → L (.ref p) (up h p o)
section
variable {nx bk ct : LS → LH → Prop} {rt : LK} {ex : SX} {s s' : LS} {h : LH} {E : LX} {L : LK} {LP : LH → Prop} {la lb le lo : LTE} {lr : LTA} {lt : LTT} {i j : Int} {n k m : Nat} {x y v : LV} {xs ys zs : List LV} {z w : Str} {a b p : Addr} {o : LO} {kvs : List (Key × LV)} {c : Cn} {f : Fd} {fs fs2 : List (Fd × LV)} {Ps Qs Rs : List HP}
theorem s_new (H : stars Ps h) (q : ∀ p h', stars (pts p o :: Ps) h' → L (.ref p) h') : cNew o L h := fun p n => q p _ (stars_new n H)
theorem s_lst (q : lr s h E fun xs h1 => xs.length ≤ 100000 ∧ cNew (.lst xs) L h1) : lLst lr s h E L := q
instance st_s_lst  : Stp (lLst lr s h E L) (lr s h E fun xs h1 => xs.length ≤ 100000 ∧ cNew (.lst xs) L h1) := ⟨s_lst⟩
theorem s_add_lst (ea : h a = some (.lst xs)) (eb : h b = some (.lst ys)) (e : xs.length + ys.length ≤ 100000) (es : xs ++ ys = zs) (q : cNew (.lst zs) L h) : gAdd (.ref a) (.ref b) h L := by
  subst es
  exact i_add_lst ea eb e q
theorem s_rep (ea : h a = some (.lst xs)) (e : -(2 ^ 62) ≤ j ∧ j < 2 ^ 62 ∧ xs.length * j.toNat ≤ 100000) (q : cNew (.lst (List.replicate j.toNat xs).flatten) L h) : gMul (.ref a) (.int j) h L := i_rep ea e q
theorem s_sl_rl {p1 p2 : Option Int} (q : cNew (.lst (cutL xs p1 p2)) L h) : gSl (.rl xs) p1 p2 h L := q
instance st_s_sl_rl {p1 p2 : Option Int} : Stp (gSl (.rl xs) p1 p2 h L) (cNew (.lst (cutL xs p1 p2)) L h) := ⟨s_sl_rl⟩
theorem s_sl_lst {p1 p2 : Option Int} (e : h a = some (.lst xs)) (q : cNew (.lst (cutL xs p1 p2)) L h) : gSl (.ref a) p1 p2 h L := i_sl_lst e q
theorem s_list_tup (q : cNew (.lst xs) L h) : gList [.tup xs] h L := q
instance st_s_list_tup  : Stp (gList [.tup xs] h L) (cNew (.lst xs) L h) := ⟨s_list_tup⟩
theorem s_list_rl (q : cNew (.lst xs) L h) : gList [.rl xs] h L := q
instance st_s_list_rl  : Stp (gList [.rl xs] h L) (cNew (.lst xs) L h) := ⟨s_list_rl⟩
theorem s_list_lst (e : h a = some (.lst xs)) (q : cNew (.lst xs) L h) : gList [.ref a] h L := i_list_lst e q
theorem s_list_seq (e : seqOf h x = some xs) (q : cNew (.lst xs) L h) : gList [x] h L := i_list_seq e q
theorem s_listRg (q : le s h E fun x h1 => match x with
  | .int n => (0 ≤ n ∧ n ≤ 1000000) ∧ cNew (.lst ((rgL n.toNat).map .int)) L h1
  | _ => False) : lListRg1 le s h E L := q
instance st_s_listRg  : Stp (lListRg1 le s h E L) (le s h E fun x h1 => match x with
  | .int n => (0 ≤ n ∧ n ≤ 1000000) ∧ cNew (.lst ((rgL n.toNat).map .int)) L h1
  | _ => False) := ⟨s_listRg⟩
theorem s_dnew (q : cNew (.dic []) L h) : lDNew s h E L := q
instance st_s_dnew  : Stp (lDNew s h E L) (cNew (.dic []) L h) := ⟨s_dnew⟩
/-- a dict that is written down -/
def cDisp (trs : List (LTE × LTE)) (s : LS) (E : LX) (L : LK) (h : LH) : Prop := ∀ p, h p = none → lPairs trs s (up h p (.dic [])) E fun ps h2 => h2 p = some (.dic []) ∧ ∃ kvs, keyed ps = some kvs ∧ kvs.length ≤ 15 ∧ L (.ref p) (up h2 p (.dic (mergeL [] kvs)))
def cDispE (p : Addr) (L : LK) (ps : List (LV × LV)) (h2 : LH) : Prop := h2 p = some (.dic []) ∧ ∃ kvs, keyed ps = some kvs ∧ kvs.length ≤ 15 ∧ L (.ref p) (up h2 p (.dic (mergeL [] kvs)))
theorem s_disp {trs : List (LTE × LTE)} (H : stars Ps h) (q : ∀ p h', stars (pts p (.dic []) :: Ps) h' → lPairs trs s h' E fun ps h2 => cDispE p L ps h2) : lDisp trs s h E L := fun p n => q p _ (stars_new n H)
theorem s_dispE {ps : List (LV × LV)} {kv2 : List (Key × LV)} (H : stars Ps h) (k : Pk Ps (pts p (.dic [])) Qs) (ek : keyed ps = some kvs) (hl : kvs.length ≤ 15) (em : mergeL [] kvs = kv2) (q : ∀ h', stars (pts p (.dic kv2) :: Qs) h' → L (.ref p) h') : cDispE p L ps h := by
  subst em
  exact ⟨stars_get H k, kvs, ek, hl, q _ (stars_up H k)⟩
/-- writes -/
theorem s_setL (H : stars Ps h) (e : Ent Ps (pts a (.lst xs) :: Qs)) (ej : ixN xs.length i = some k) (q : ∀ h', stars (pts a (.lst (xs.set k x)) :: Qs) h' → LP h') : gSet (.ref a) (.int i) x h LP := i_setL (stars_get0 (e _ H)) ej (q _ (stars_up0 (e _ H)))
theorem s_setLN {n : Nat} (H : stars Ps h) (e : Ent Ps (pts a (.lst xs) :: Qs)) (ej : n < xs.length) (es : xs.set n x = zs) (q : ∀ h', stars (pts a (.lst zs) :: Qs) h' → LP h') : gSet (.ref a) (.int (@OfNat.ofNat Int n (@instOfNat n))) x h LP := by
  subst es
  exact i_setLN (stars_get0 (e _ H)) ej (q _ (stars_up0 (e _ H)))
theorem s_setD {mk : Key} (H : stars Ps h) (e : Ent Ps (pts a (.dic kvs) :: Qs)) (ej : keyOf v = some mk) (hz : kvs.length < 100000) {kv2 : List (Key × LV)} (es : dput kvs mk x = kv2) (q : ∀ h', stars (pts a (.dic kv2) :: Qs) h' → LP h') : gSet (.ref a) v x h LP := by
  subst es
  exact i_setD (stars_get0 (e _ H)) ej hz (q _ (stars_up0 (e _ H)))
theorem s_append (H : stars Ps h) (e : Ent Ps (pts a (.lst ys) :: Qs)) (hz : ys.length < 100000) (es : ys ++ [x] = zs) (q : ∀ h', stars (pts a (.lst zs) :: Qs) h' → L .non h') : gAppend (.ref a) [x] h L := by
  subst es
  exact i_append (stars_get0 (e _ H)) hz (q _ (stars_up0 (e _ H)))
theorem s_extend (H : stars Ps h) (e : Ent Ps (pts a (.lst ys) :: Qs)) (e2 : h b = some (.lst zs)) (hz : ys.length + zs.length ≤ 100000) (es : ys ++ zs = xs) (q : ∀ h', stars (pts a (.lst xs) :: Qs) h' → L .non h') : gExtend (.ref a) [.ref b] h L := by
  subst es
  exact i_extend (stars_get0 (e _ H)) e2 hz (q _ (stars_up0 (e _ H)))
theorem s_reverse (H : stars Ps h) (e : Ent Ps (pts a (.lst ys) :: Qs)) (q : ∀ h', stars (pts a (.lst ys.reverse) :: Qs) h' → L .non h') : gReverse (.ref a) [] h L := i_reverse (stars_get0 (e _ H)) (q _ (stars_up0 (e _ H)))
theorem s_clear (H : stars Ps h) (e : Ent Ps (pts a (.lst ys) :: Qs)) (q : ∀ h', stars (pts a (.lst []) :: Qs) h' → L .non h') : gClear (.ref a) [] h L := i_clear (stars_get0 (e _ H)) (q _ (stars_up0 (e _ H)))
theorem s_pop0 (H : stars Ps h) (e : Ent Ps (pts a (.lst ys) :: Qs)) (ey : ys[ys.length - 1]? = some y) (q : ∀ h', stars (pts a (.lst ys.dropLast) :: Qs) h' → L y h') : gPop0 (.ref a) [] h L := i_pop0 (stars_get0 (e _ H)) ey (q _ (stars_up0 (e _ H)))
theorem s_pop1 (H : stars Ps h) (e : Ent Ps (pts a (.lst ys) :: Qs)) (hi : 0 ≤ i ∧ i < 100000) (ey : ys[i.toNat]? = some y) (q : ∀ h', stars (pts a (.lst (ys.eraseIdx i.toNat)) :: Qs) h' → L y h') : gPop1 (.ref a) [.int i] h L := i_pop1 (stars_get0 (e _ H)) hi ey (q _ (stars_up0 (e _ H)))
theorem s_insert (H : stars Ps h) (e : Ent Ps (pts a (.lst ys) :: Qs)) (hi : 0 ≤ i ∧ i < 100000 ∧ ys.length < 100000) (q : ∀ h', stars (pts a (.lst (ys.take i.toNat ++ [y] ++ ys.drop i.toNat)) :: Qs) h' → L .non h') : gInsert (.ref a) [.int i, y] h L := i_insert (stars_get0 (e _ H)) hi (q _ (stars_up0 (e _ H)))
theorem s_dpop {mk : Key} (H : stars Ps h) (e : Ent Ps (pts a (.dic kvs) :: Qs)) (ek : keyOf y = some mk) (er : dget kvs mk = some v) (q : ∀ h', stars (pts a (.dic (ddrop kvs mk)) :: Qs) h' → L v h') : gDPop (.ref a) y h L := i_dpopG (stars_get0 (e _ H)) ek er (q _ (stars_up0 (e _ H)))
theorem s_fldP (H : stars Ps h) (e : Ent Ps (pts a (.ins c fs) :: Qs)) (hz : fs.length < 100) (ef : fput f x fs = fs2) (q : ∀ h', stars (pts a (.ins c fs2) :: Qs) h' → LP h') : gFldS c f x (.ref a) h LP := i_fldPN (stars_get0 (e _ H)) hz ef (q _ (stars_up0 (e _ H)))
theorem s_fldB (H : stars Ps h) (e : Ent Ps (pts a (.ins c fs) :: Qs)) (hz : fs.length < 100) (ef : fput f (.int (i + j)) fs = fs2) (q : ∀ h', stars (pts a (.ins c fs2) :: Qs) h' → LP h') : gFldB c f a i (.int j) h LP := i_fldB (stars_get0 (e _ H)) hz ef (q _ (stars_up0 (e _ H)))
theorem i_eq_non (q : L (.bl true) h) : gEqW id .non .non h L := q
theorem i_ne_non (q : L (.bl false) h) : gEqW (!·) .non .non h L := q
/-- own objects made -/
def cMake (c : Cn) (ls : LSp) (L : LK) (xs : List LV) (h1 : LH) : Prop := ∀ x, h1 x = none → ls (.ref x :: xs) (up h1 x (.ins c [])) X0 fun v h2 => v = .non ∧ L (.ref x) h2
theorem s_make {ls : LSp} (q : lr s h E fun xs h1 => cMake c ls L xs h1) : lMake c ls lr s h E L := q
instance st_s_make {ls : LSp} : Stp (lMake c ls lr s h E L) (lr s h E fun xs h1 => cMake c ls L xs h1) := ⟨s_make⟩
theorem s_makeG {ls : LSp} (H : stars Ps h) (q : ∀ p h', stars (pts p (.ins c []) :: Ps) h' → ls (.ref p :: xs) h' X0 fun v h2 => v = .non ∧ L (.ref p) h2) : cMake c ls L xs h := fun p n => q p _ (stars_new n H)
theorem s_nonL {Q : Prop} (q : Q) : LV.non = LV.non ∧ Q := ⟨rfl, q⟩
instance st_s_nonL {Q : Prop} : Stp (LV.non = LV.non ∧ Q) (Q) := ⟨s_nonL⟩
/-- loops over a list that stays -/
theorem s_forL {g : LTG} {lbody : LTS} (e0 : h a = some (.lst xs)) (P : Nat → LS → LH → Prop) (keep : ∀ i s' h', P i s' h' → h' a = some (.lst xs)) (p0 : P 0 s h) (stop : ∀ s' h', P xs.length s' h' → nx s' h')
    (step : ∀ (i : Nat) y s' h', xs[i]? = some y → P i s' h' → g y s' h' ex fun s2 h2 => lbody ⟨P (i + 1), rt, ex, nx, P (i + 1)⟩ s2 h2) : kFor nx rt ex g lbody s (itL a) h := by
  refine ⟨xs.length, fun i s h => i ≤ xs.length ∧ P i s h, ⟨Nat.zero_le _, p0⟩, fun i s' h' hp => ?_⟩
  unfold itL
  rw [keep i s' h' hp.2]
  dsimp only
  cases eq : xs[i]? with
  | some x =>
    have hi : i < xs.length := (List.getElem?_eq_some_iff.mp eq).1
    refine ⟨hi, ?_⟩
    have q := step i x s' h' eq hp.2
    have e : (fun s h => i + 1 ≤ xs.length ∧ P (i + 1) s h) = P (i + 1) := by
      funext s h
      exact propext ⟨fun z => z.2, fun z => ⟨hi, z⟩⟩
    rw [← e] at q
    exact q
  | none =>
    have e : i = xs.length := by
      have := List.getElem?_eq_none_iff.mp eq
      have := hp.1
      omega
    subst e
    exact stop s' h' hp.2
theorem s_forE {g : LTG} {lbody : LTS} (e0 : h a = some (.lst xs)) (P : Nat → LS → LH → Prop) (keep : ∀ i s' h', P i s' h' → h' a = some (.lst xs)) (p0 : P 0 s h) (stop : ∀ s' h', P xs.length s' h' → nx s' h')
    (step : ∀ (i : Nat) y s' h', xs[i]? = some y → P i s' h' → g (.tup [.int i, y]) s' h' ex fun s2 h2 => lbody ⟨P (i + 1), rt, ex, nx, P (i + 1)⟩ s2 h2) : kFor nx rt ex g lbody s (itEnL a) h := by
  refine ⟨xs.length, fun i s h => i ≤ xs.length ∧ P i s h, ⟨Nat.zero_le _, p0⟩, fun i s' h' hp => ?_⟩
  unfold itEnL
  rw [keep i s' h' hp.2]
  dsimp only
  cases eq : xs[i]? with
  | some x =>
    have hi : i < xs.length := (List.getElem?_eq_some_iff.mp eq).1
    refine ⟨hi, ?_⟩
    have q := step i x s' h' eq hp.2
    have e : (fun s h => i + 1 ≤ xs.length ∧ P (i + 1) s h) = P (i + 1) := by
      funext s h
      exact propext ⟨fun z => z.2, fun z => ⟨hi, z⟩⟩
    rw [← e] at q
    exact q
  | none =>
    have e : i = xs.length := by
      have := List.getElem?_eq_none_iff.mp eq
      have := hp.1
      omega
    subst e
    exact stop s' h' hp.2
/-- comprehensions: G tells of the turn, the items so far and the parts beside the new list -/
def gInv (m : Nat) (D : Addr) (G : Nat → List LV → List HP → Prop) (i : Nat) (h' : LH) : Prop := i ≤ m ∧ ∃ acc Qs, acc.length ≤ i ∧ G i acc Qs ∧ stars (pts D (.lst acc) :: Qs) h'
def gApp (m : Nat) (D : Addr) (G : Nat → List LV → List HP → Prop) (i : Nat) (y : LV) (h4 : LH) : Prop := match h4 D with
  | some (.lst acc) => acc.length < 100000 ∧ gInv m D G (i + 1) (up h4 D (.lst (acc ++ [y])))
  | _ => False
theorem gApp.mk {D : Addr} {G : Nat → List LV → List HP → Prop} {acc : List LV} {B : List HP} {i : Nat} (H : stars Ps h) (k : Pk Ps (pts D (.lst acc)) Qs) (hl : acc.length ≤ i) (hi : i < m) (hz : m ≤ 100000) (g : G (i + 1) (acc ++ [y]) B) (e : Ent Qs B) : gApp m D G i y h := by
  unfold gApp
  rw [stars_get H k]
  exact ⟨by omega, hi, acc ++ [y], B, by rw [List.length_append]; simp; omega, g, Ent.cons e _ (stars_up H k)⟩
theorem gInv.mk {D : Addr} {G : Nat → List LV → List HP → Prop} {acc : List LV} {B : List HP} {i : Nat} (H : stars Ps h) (k : Pk Ps (pts D (.lst acc)) Qs) (hl : acc.length ≤ i) (hi : i < m) (g : G (i + 1) acc B) (e : Ent Qs B) : gInv m D G (i + 1) h := ⟨hi, acc, B, by omega, g, Ent.cons e _ (k.out H)⟩
theorem s_lcF {nt : NT} {vs : List Nat} {it : LIt} {item : Nat → LV} {ff : LV → LS} (G : Nat → List LV → List HP → Prop) (H : stars Ps h) (hit : ∀ D i acc Qs h', i ≤ m → G i acc Qs → stars (pts D (.lst acc) :: Qs) h' → it i h' = if i < m then some (some (item i)) else some none) (ef : ∀ i, nt.put (item i) (lwipe s vs) = some (ff (item i)))
    (q0 : ∃ Qs, Ent Ps Qs ∧ G 0 [] Qs)
    (step : ∀ D i acc Qs h', i < m → acc.length ≤ i → G i acc Qs → stars (pts D (.lst acc) :: Qs) h' → lt (ff (item i)) h' X0 fun b h3 => if b = true then le (ff (item i)) h3 X0 (gApp m D G i) else gInv m D G (i + 1) h3)
    (stop : ∀ D acc Qs h', acc.length ≤ m → G m acc Qs → stars (pts D (.lst acc) :: Qs) h' → L (.ref D) h') : kLc nt lt le vs s it h L := by
  intro D hD
  refine ⟨m, gInv m D G, ?_, fun i h' ⟨hi, acc, Qs, hl, g, hs⟩ => ?_⟩
  · obtain ⟨Qs, e, g⟩ := q0
    exact ⟨Nat.zero_le _, [], Qs, Nat.le_refl _, g, Ent.cons e _ (stars_new hD H)⟩
  rw [hit D i acc Qs h' hi g hs]
  by_cases hlt : i < m
  · rw [if_pos hlt]
    refine ⟨hlt, ?_⟩
    rw [ef]
    exact step D i acc Qs h' hlt hl g hs
  · rw [if_neg hlt]
    have e : i = m := by omega
    subst e
    exact stop D acc Qs h' hl g hs
theorem s_lcH {nt : NT} {vs : List Nat} {it : LIt} {item : Nat → LV} {ff : LV → LS} (G : Nat → List LV → List HP → Prop) (H : stars Ps h) (hit : ∀ D i acc Qs h', i ≤ m → G i acc Qs → stars (pts D (.lst acc) :: Qs) h' → it i h' = if i < m then some (some (item i)) else some none) (ef : ∀ i, nt.put (item i) (lwipe s vs) = some (ff (item i)))
    (q0 : ∃ Qs, Ent Ps Qs ∧ G 0 [] Qs)
    (step : ∀ D i acc Qs h', i < m → acc.length ≤ i → G i acc Qs → stars (pts D (.lst acc) :: Qs) h' → le (ff (item i)) h' X0 (gApp m D G i))
    (stop : ∀ D acc Qs h', acc.length ≤ m → G m acc Qs → stars (pts D (.lst acc) :: Qs) h' → L (.ref D) h') : kLc nt lYes le vs s it h L :=
  s_lcF (lt := lYes) G H hit ef q0 (fun D i acc Qs h' h1 h2 h3 h4 => step D i acc Qs h' h1 h2 h3 h4) stop
theorem s_lcR {nt : NT} {vs : List Nat} {lo : Int} {ff : LV → LS} (G : Nat → List LV → List HP → Prop) (H : stars Ps h) (ef : ∀ x, nt.put x (lwipe s vs) = some (ff x)) (q0 : ∃ Qs, Ent Ps Qs ∧ G 0 [] Qs)
    (step : ∀ D i acc Qs h', i < m → acc.length ≤ i → G i acc Qs → stars (pts D (.lst acc) :: Qs) h' → le (ff (.int (lo + i))) h' X0 (gApp m D G i))
    (stop : ∀ D acc Qs h', acc.length ≤ m → G m acc Qs → stars (pts D (.lst acc) :: Qs) h' → L (.ref D) h') : kLc nt lYes le vs s (itR lo m) h L :=
  s_lcH (item := fun i => .int (lo + i)) G H (fun D i acc Qs h' _ _ _ => rfl) (fun i => ef _) q0 step stop
/-- over the items of a list or tuple by value -/
theorem itSt_get {i : Nat} : itSt xs i h = if i < xs.length then some (some (xs.getD i .non)) else some none := by
  unfold itSt
  by_cases hi : i < xs.length
  · rw [if_pos hi, List.getElem?_eq_getElem hi, List.getD_eq_getElem?_getD, List.getElem?_eq_getElem hi]
    rfl
  · rw [if_neg hi, List.getElem?_eq_none (by omega)]
theorem s_lcS {nt : NT} {vs : List Nat} {ff : LV → LS} (G : Nat → List LV → List HP → Prop) (H : stars Ps h) (ef : ∀ x, nt.put x (lwipe s vs) = some (ff x)) (q0 : ∃ Qs, Ent Ps Qs ∧ G 0 [] Qs)
    (step : ∀ D i x acc Qs h', xs[i]? = some x → i < xs.length → acc.length ≤ i → G i acc Qs → stars (pts D (.lst acc) :: Qs) h' → lt (ff x) h' X0 fun b h3 => if b = true then le (ff x) h3 X0 (gApp xs.length D G i) else gInv xs.length D G (i + 1) h3)
    (stop : ∀ D acc Qs h', acc.length ≤ xs.length → G xs.length acc Qs → stars (pts D (.lst acc) :: Qs) h' → L (.ref D) h') : kLc nt lt le vs s (itSt xs) h L :=
  s_lcF (m := xs.length) (item := fun i => xs.getD i .non) G H (fun D i acc Qs h' _ _ _ => itSt_get) (fun i => ef _) q0 (fun D i acc Qs h' h1 h2 h3 h4 => by
    have e : xs[i]? = some (xs.getD i .non) := by rw [List.getD_eq_getElem?_getD, List.getElem?_eq_getElem h1]; rfl
    exact step D i _ acc Qs h' e h1 h2 h3 h4) stop
theorem s_lcL {nt : NT} {vs : List Nat} {ff : LV → LS} (G : Nat → List LV → List HP → Prop) (H : stars Ps h) (keep : ∀ D i acc Qs h', G i acc Qs → stars (pts D (.lst acc) :: Qs) h' → h' a = some (.lst xs)) (ef : ∀ x, nt.put x (lwipe s vs) = some (ff x)) (q0 : ∃ Qs, Ent Ps Qs ∧ G 0 [] Qs)
    (step : ∀ D i x acc Qs h', xs[i]? = some x → i < xs.length → acc.length ≤ i → G i acc Qs → stars (pts D (.lst acc) :: Qs) h' → lt (ff x) h' X0 fun b h3 => if b = true then le (ff x) h3 X0 (gApp xs.length D G i) else gInv xs.length D G (i + 1) h3)
    (stop : ∀ D acc Qs h', acc.length ≤ xs.length → G xs.length acc Qs → stars (pts D (.lst acc) :: Qs) h' → L (.ref D) h') : kLc nt lt le vs s (itL a) h L :=
  s_lcF (m := xs.length) (item := fun i => xs.getD i .non) G H (fun D i acc Qs h' hi g hs => by
    unfold itL
    rw [keep D i acc Qs h' g hs]
    have e := itSt_get (xs := xs) (i := i) (h := h')
    unfold itSt at e
    exact e) (fun i => ef _) q0 (fun D i acc Qs h' h1 h2 h3 h4 => by
    have e : xs[i]? = some (xs.getD i .non) := by rw [List.getD_eq_getElem?_getD, List.getElem?_eq_getElem h1]; rfl
    exact step D i _ acc Qs h' e h1 h2 h3 h4) stop
/-- a test that is always so -/
theorem s_yes {LB : Bool → LH → Prop} (q : LB true h) : lYes s h E LB := q
instance st_s_yes {LB : Bool → LH → Prop} : Stp (lYes s h E LB) (LB true h) := ⟨s_yes⟩
/-- a pure law, item by item, over parts -/
theorem s_lcM {nt : NT} {vs : List Nat} {ff : LV → LS} (g : LV → LV) (H : stars Ps h) (ef : ∀ x, nt.put x (lwipe s vs) = some (ff x)) (hz : xs.length ≤ 100000)
    (pure : ∀ D acc x h' K, x ∈ xs → stars (pts D (.lst acc) :: Ps) h' → K (g x) h' → le (ff x) h' X0 K) (q : ∀ D h', stars (pts D (.lst (xs.map g)) :: Ps) h' → L (.ref D) h') : kLc nt lYes le vs s (itSt xs) h L := by
  refine s_lcS (fun i acc Qs => acc = (xs.take i).map g ∧ Qs = Ps) H ef ⟨_, Ent.refl, rfl, rfl⟩ (fun D i x acc Qs h' ex hi hl hg hs => ?_) (fun D acc Qs h' hl hg hs => ?_)
  · obtain ⟨rfl, rfl⟩ := hg
    refine pure D _ x h' _ (List.mem_of_getElem? ex) hs ?_
    refine gApp.mk hs .here hl hi hz ⟨?_, rfl⟩ Ent.refl
    obtain ⟨hi, rfl⟩ := List.getElem?_eq_some_iff.mp ex
    rw [List.take_succ_eq_append_getElem hi, List.map_append]
    rfl
  · obtain ⟨rfl, rfl⟩ := hg
    rw [List.take_length] at hs
    exact q D h' hs
theorem s_lcML {nt : NT} {vs : List Nat} {ff : LV → LS} (g : LV → LV) (H : stars Ps h) (e0 : h a = some (.lst xs)) (kp : Pk Ps (pts a (.lst xs)) Qs) (ef : ∀ x, nt.put x (lwipe s vs) = some (ff x)) (hz : xs.length ≤ 100000)
    (pure : ∀ D acc x h' K, x ∈ xs → stars (pts D (.lst acc) :: Ps) h' → K (g x) h' → le (ff x) h' X0 K) (q : ∀ D h', stars (pts D (.lst (xs.map g)) :: Ps) h' → L (.ref D) h') : kLc nt lYes le vs s (itL a) h L := by
  refine s_lcL (xs := xs) (fun i acc Qs => acc = (xs.take i).map g ∧ Qs = Ps) H (fun D i acc Qs' h' hg hs => by rw [hg.2] at hs; exact stars_get hs kp.there) ef ⟨_, Ent.refl, rfl, rfl⟩ (fun D i x acc Qs h' ex hi hl hg hs => ?_) (fun D acc Qs h' hl hg hs => ?_)
  · obtain ⟨rfl, rfl⟩ := hg
    refine pure D _ x h' _ (List.mem_of_getElem? ex) hs ?_
    refine gApp.mk hs .here hl hi hz ⟨?_, rfl⟩ Ent.refl
    obtain ⟨hi, rfl⟩ := List.getElem?_eq_some_iff.mp ex
    rw [List.take_succ_eq_append_getElem hi, List.map_append]
    rfl
  · obtain ⟨rfl, rfl⟩ := hg
    rw [List.take_length] at hs
    exact q D h' hs
end
theorem fr_of {A B : List HP} {h : LH} (H : stars A h) (e : Ent A B) : stars B h := e h H
/-! ### the box of digits -/
def box (b : Addr) (n : Int) : HP := fun h => ∃ x y c : Int, (0 ≤ x ∧ 0 ≤ y ∧ y < 4611686018427387904 ∧ 0 ≤ c ∧ c ≤ n) ∧ pts b (.lst [.int x, .int y, .int c]) h
theorem box_out {b : Addr} {n : Int} {Ps : List HP} {h : LH} (s : stars (box b n :: Ps) h) : ∃ x y c : Int, (0 ≤ x ∧ 0 ≤ y ∧ y < 4611686018427387904 ∧ 0 ≤ c ∧ c ≤ n) ∧ stars (pts b (.lst [.int x, .int y, .int c]) :: Ps) h := by
  obtain ⟨x, s⟩ := stars_ex s
  obtain ⟨y, s⟩ := stars_ex s
  obtain ⟨c, s⟩ := stars_ex s
  exact ⟨x, y, c, stars_pu s⟩
theorem box_in {b : Addr} {n x y c : Int} {Ps : List HP} {h : LH} (hp : 0 ≤ x ∧ 0 ≤ y ∧ y < 4611686018427387904 ∧ 0 ≤ c ∧ c ≤ n) (s : stars (pts b (.lst [.int x, .int y, .int c]) :: Ps) h) : stars (box b n :: Ps) h := stars_imp (fun h q => ⟨x, y, c, hp, q⟩) s
theorem box_mono {b : Addr} {n m : Int} (e : n ≤ m) : ∀ h, box b n h → box b m h := fun h ⟨x, y, c, p, q⟩ => ⟨x, y, c, by omega, q⟩
theorem Ent.box {A A' B : List HP} {b : Addr} {n m : Int} (k : Pk A (box b n) A') (e : n ≤ m) (r : Ent A' B) : Ent A (VL.box b m :: B) := Ent.imp k (box_mono e) r
/-! ### the heap of the call as a whole -/
def all0 (h0 : LH) : HP := fun h => Sub h0 h
theorem all0_start (h : LH) : stars [all0 h] h := ⟨h, fun _ => none, fun _ => .inr rfl, by funext a; unfold un; cases h a <;> rfl, Sub.refl h, trivial⟩
theorem all0_sub {h0 h : LH} {Ps Qs : List HP} (s : stars Ps h) (k : Pk Ps (all0 h0) Qs) : Sub h0 h := by
  obtain ⟨h1, h2, d, rfl, p, q⟩ := k.out s
  exact fun a o e => un_l (p a o e)
theorem all0_get {h0 h : LH} {Ps Qs : List HP} {a : Addr} {o : LO} (s : stars Ps h) (k : Pk Ps (all0 h0) Qs) (e : h0 a = some o) : h a = some o := all0_sub s k a o e
theorem all0_dn {h0 h : LH} {Ps Qs : List HP} {L : LH → Prop} (s : stars Ps h) (k : Pk Ps (all0 h0) Qs) (q : L h0) : Dn L h := Dn.sub (all0_sub s k) q
theorem all0_seq {h0 h : LH} {Ps Qs : List HP} {x : LV} {xs : List LV} (s : stars Ps h) (k : Pk Ps (all0 h0) Qs) (e : seqOf h0 x = some xs) : seqOf h x = some xs := seqOf_sub (all0_sub s k) e
end VL

set_option Elab.async false
set_option linter.all false
set_option maxRecDepth 100000
set_option maxHeartbeats 2000000
namespace VL
open PySem PySem.Spec PyProof.Rows L2
/-! ### buttons, as parts -/
def bt (o c : Addr) (B : Bt) : HP := stars [pts o (.ins .Button (B.fs c)), pts c (.lst [cv B.c0, cv B.c1])]
theorem bt_out {o c : Addr} {B : Bt} {Ps : List HP} {h : LH} (s : stars (bt o c B :: Ps) h) : stars (pts o (.ins .Button (B.fs c)) :: pts c (.lst [cv B.c0, cv B.c1]) :: Ps) h := stars_open s
theorem bt_in {o c : Addr} {B : Bt} {Ps : List HP} {h : LH} (s : stars (pts o (.ins .Button (B.fs c)) :: pts c (.lst [cv B.c0, cv B.c1]) :: Ps) h) : stars (bt o c B :: Ps) h := stars_close (Qs := [pts o (.ins .Button (B.fs c)), pts c (.lst [cv B.c0, cv B.c1])]) s
def dt (o c : Addr) (B : Bt) : HP := stars [pts o (.dic (dd B.n B.bd c B.step)), pts c (.lst [cv B.c0, cv B.c1])]
theorem dt_out {o c : Addr} {B : Bt} {Ps : List HP} {h : LH} (s : stars (dt o c B :: Ps) h) : stars (pts o (.dic (dd B.n B.bd c B.step)) :: pts c (.lst [cv B.c0, cv B.c1]) :: Ps) h := stars_open s
theorem dt_in {o c : Addr} {B : Bt} {Ps : List HP} {h : LH} (s : stars (pts o (.dic (dd B.n B.bd c B.step)) :: pts c (.lst [cv B.c0, cv B.c1]) :: Ps) h) : stars (dt o c B :: Ps) h := stars_close (Qs := [pts o (.dic (dd B.n B.bd c B.step)), pts c (.lst [cv B.c0, cv B.c1])]) s
theorem Ent.btIn {A Ps : List HP} {o c : Addr} {B : Bt} (e : Ent A (pts o (.ins .Button (B.fs c)) :: pts c (.lst [cv B.c0, cv B.c1]) :: Ps)) : Ent A (bt o c B :: Ps) := fun h s => bt_in (e h s)
theorem Ent.dtIn {A Ps : List HP} {o c : Addr} {B : Bt} (e : Ent A (pts o (.dic (dd B.n B.bd c B.step)) :: pts c (.lst [cv B.c0, cv B.c1]) :: Ps)) : Ent A (dt o c B :: Ps) := fun h s => dt_in (e h s)
theorem Ent.dtE {A A' Ps : List HP} {o c : Addr} {B B' : Bt} (k : Pk A (dt o c B') A') (e : dt o c B' = dt o c B) (r : Ent A' Ps) : Ent A (dt o c B :: Ps) := by
  rw [← e]
  exact Ent.pk k r
/-- a row of items, by value: a tuple, or a list in the heap -/
def isq (x : LV) (xs : List LV) : HP := fun h => seqOf h x = some xs
theorem ent_pk {Cs Qs : List HP} {P : HP} (k : Pk Cs P Qs) : Ent Cs (P :: Qs) := fun h s => k.out s
theorem isq_seq {Ps Qs : List HP} {x : LV} {xs : List LV} {h : LH} (s : stars Ps h) (k : Pk Ps (isq x xs) Qs) : seqOf h x = some xs := by
  obtain ⟨h1, h2, d, rfl, p, q⟩ := k.out s
  exact seqOf_sub (fun a o e => un_l e) p
theorem ent_isqT {Cs : List HP} {xs : List LV} : Ent Cs (isq (.tup xs) xs :: Cs) := fun h s => ⟨fun _ => none, h, fun _ => .inl rfl, by funext a; rfl, rfl, s⟩
theorem ent_isqL {Cs Qs : List HP} {a : Addr} {xs : List LV} (k : Pk Cs (pts a (.lst xs)) Qs) : Ent Cs (isq (.ref a) xs :: Qs) := fun h s => stars_imp (fun h p => seqOf_lst p) (k.out s)
theorem ent_isqU {Cs Qs : List HP} {a : Addr} {xs : List LV} (k : Pk Cs (isq (.ref a) xs) Qs) : Ent Cs (pts a (.lst xs) :: Qs) := fun h s => stars_imp (fun h p => seqOf_ref p) (k.out s)
theorem isq_get {Ps Qs : List HP} {a : Addr} {xs : List LV} {h : LH} (s : stars Ps h) (k : Pk Ps (isq (.ref a) xs) Qs) : h a = some (.lst xs) := seqOf_ref (isq_seq s k)
theorem i_sindex {z w : Str} {k : Nat} {h : LH} {L : LK} (e : Txt.index0 z w = some k) (q : L (.int (k : Nat)) h) : gSIndex (.str z) [.str w] h L := by
  unfold gSIndex
  dsimp only
  rw [e]
  exact q
theorem bt_get1 {Ps Qs : List HP} {o c : Addr} {B : Bt} {h : LH} (s : stars Ps h) (k : Pk Ps (bt o c B) Qs) : h o = some (.ins .Button (B.fs c)) := stars_get0 (bt_out (k.out s))
theorem bt_get2 {Ps Qs : List HP} {o c : Addr} {B : Bt} {h : LH} (s : stars Ps h) (k : Pk Ps (bt o c B) Qs) : h c = some (.lst [cv B.c0, cv B.c1]) := stars_get (bt_out (k.out s)) (.there .here)
theorem dt_get1 {Ps Qs : List HP} {o c : Addr} {B : Bt} {h : LH} (s : stars Ps h) (k : Pk Ps (dt o c B) Qs) : h o = some (.dic (dd B.n B.bd c B.step)) := stars_get0 (dt_out (k.out s))
theorem dt_get2 {Ps Qs : List HP} {o c : Addr} {B : Bt} {h : LH} (s : stars Ps h) (k : Pk Ps (dt o c B) Qs) : h c = some (.lst [cv B.c0, cv B.c1]) := stars_get (dt_out (k.out s)) (.there .here)
theorem i_eq_cvI {c : Option Int} {i : Int} {h : LH} {L : LK} (q : L (.bl (decide (c = some i))) h) : gEqW id (cv c) (.int i) h L := by
  cases c with
  | some j =>
    have e : decide (some j = some i) = decide (j = i) := by
      by_cases hj : j = i
      · rw [decide_eq_true hj, decide_eq_true (by rw [hj])]
      · rw [decide_eq_false hj, decide_eq_false fun z => hj (Option.some.inj z)]
    rw [e] at q
    exact i_eq_int q
  | none => exact i_eqD (d := .none) (e := .int i) rfl rfl rfl rfl (by rw [decide_eq_false (by intro z; cases z)] at q; exact q)
theorem i_notnon_cv {c : Option Int} {h : LH} {L : LK} (q : L (.bl c.isSome) h) : gIs (!·) (cv c) .non h L := by
  cases c with
  | some j => exact i_is_nN q
  | none => exact i_is_nnN q
/-! what holds of a button's counts -/
structure Bt.ok (B : Bt) : Prop where
  tl : B.tab.length = 16
  lo : Low B.z
  s1 : 1 ≤ B.step
  s2 : B.step ≤ 64
  n0 : 0 ≤ B.n
  nb : B.n ≤ B.bd
  b1 : B.bd ≤ 4096
  cc : B.c0 = some B.bd ∨ B.c1 = some B.bd
  u0 : ∀ x, B.c0 = some x → 0 ≤ x ∧ x ≤ B.bd
  u1 : ∀ x, B.c1 = some x → 0 ≤ x ∧ x ≤ B.bd
theorem Bt.ok.write {B : Bt} (k : B.ok) (e : B.n = B.bd) : B.write.ok := by
  obtain ⟨h1, h2, h3, h4, h5, h6, h7, h8, h9, h10⟩ := k
  unfold Bt.write
  split
  · refine ⟨h1, h2, h3, h4, h5, ?_, ?_, .inr rfl, fun x hx => ?_, fun x hx => ?_⟩ <;> dsimp only at *
    · omega
    · omega
    · have := h9 x hx; omega
    · cases hx; omega
  · refine ⟨h1, h2, h3, h4, h5, ?_, ?_, .inl rfl, fun x hx => ?_, fun x hx => ?_⟩ <;> dsimp only at *
    · omega
    · omega
    · cases hx; omega
    · have := h10 x hx; omega
theorem Bt.write_n {B : Bt} : B.write.n = B.n := by unfold Bt.write; split <;> rfl
theorem Bt.write_lt {B : Bt} (k : B.ok) (e : B.n = B.bd) (l : B.n < 4096) : B.n < B.write.bd := by
  have := k.s1
  unfold Bt.write
  split <;> dsimp only <;> omega
theorem Bt.ok.press {B : Bt} (k : B.ok) (l : B.n < 4096) : B.press.ok := by
  unfold Bt.press
  by_cases e : B.n = B.bd
  · rw [if_pos e]
    obtain ⟨h1, h2, h3, h4, h5, h6, h7, h8, h9, h10⟩ := k.write e
    have := Bt.write_lt k e l
    rw [Bt.write_n] at h5
    exact ⟨h1, h2, h3, h4, by show 0 ≤ B.n + 1; omega, by show B.n + 1 ≤ B.write.bd; omega, h7, h8, h9, h10⟩
  · rw [if_neg e]
    obtain ⟨h1, h2, h3, h4, h5, h6, h7, h8, h9, h10⟩ := k
    exact ⟨h1, h2, h3, h4, by show 0 ≤ B.n + 1; omega, by show B.n + 1 ≤ B.bd; omega, h7, h8, h9, h10⟩
theorem Bt.press_a {B : Bt} (h1 : B.n = B.bd) (h2 : B.c0 = some B.bd) : B.press = ⟨B.z, B.tab, B.key, B.age, B.step, B.n + 1, min (B.bd + B.step) 4096, B.c0, some (min (B.bd + B.step) 4096)⟩ := by unfold Bt.press Bt.write; rw [if_pos h1, if_pos h2]
theorem Bt.press_b {B : Bt} (h1 : B.n = B.bd) (h2 : ¬B.c0 = some B.bd) : B.press = ⟨B.z, B.tab, B.key, B.age, B.step, B.n + 1, min (B.bd + B.step) 4096, some (min (B.bd + B.step) 4096), B.c1⟩ := by unfold Bt.press Bt.write; rw [if_pos h1, if_neg h2]
theorem Bt.press_c {B : Bt} (h1 : ¬B.n = B.bd) : B.press = ⟨B.z, B.tab, B.key, B.age, B.step, B.n + 1, B.bd, B.c0, B.c1⟩ := by unfold Bt.press; rw [if_neg h1]
theorem Bt.press_n {B : Bt} : B.press.n = B.n + 1 := rfl
theorem Bt.press_z {B : Bt} : B.press.z = B.z ∧ B.press.tab = B.tab ∧ B.press.key = B.key ∧ B.press.age = B.age ∧ B.press.step = B.step := by
  unfold Bt.press Bt.write
  dsimp only
  split
  · split <;> exact ⟨rfl, rfl, rfl, rfl, rfl⟩
  · exact ⟨rfl, rfl, rfl, rfl, rfl⟩
/-- its cell goes out -/
def Bt.out (B : Bt) : Bt := { B with n := B.bd }
theorem Bt.ok.out {B : Bt} (k : B.ok) : B.out.ok := by
  obtain ⟨h1, h2, h3, h4, h5, h6, h7, h8, h9, h10⟩ := k
  exact ⟨h1, h2, h3, h4, by show 0 ≤ B.bd; omega, Int.le_refl _, h7, h8, h9, h10⟩
/-! ### comprehensions that pick -/
section
variable {s : LS} {h : LH} {L : LK} {le : LTE} {lt : LTT} {xs : List LV} {a : Addr} {Ps Qs : List HP}
theorem s_lcP {nt : NT} {vs : List Nat} {ff : LV → LS} (p : LV → Bool) (g : LV → LV) (H : stars Ps h) (ef : ∀ x, nt.put x (lwipe s vs) = some (ff x)) (hz : xs.length ≤ 100000)
    (test : ∀ D acc x h' K, x ∈ xs → stars (pts D (.lst acc) :: Ps) h' → K (p x) h' → lt (ff x) h' X0 K)
    (pure : ∀ D acc x h' K, x ∈ xs → p x = true → stars (pts D (.lst acc) :: Ps) h' → K (g x) h' → le (ff x) h' X0 K) (q : ∀ D h', stars (pts D (.lst ((xs.filter p).map g)) :: Ps) h' → L (.ref D) h') : kLc nt lt le vs s (itSt xs) h L := by
  refine s_lcS (fun i acc Qs => acc = ((xs.take i).filter p).map g ∧ Qs = Ps) H ef ⟨_, Ent.refl, rfl, rfl⟩ (fun D i x acc Qs h' ex hi hl hg hs => ?_) (fun D acc Qs h' hl hg hs => ?_)
  · obtain ⟨rfl, rfl⟩ := hg
    have et : xs.take (i + 1) = xs.take i ++ [x] := by
      obtain ⟨hi, rfl⟩ := List.getElem?_eq_some_iff.mp ex
      rw [List.take_succ_eq_append_getElem hi]
    refine test D _ x h' _ (List.mem_of_getElem? ex) hs ?_
    by_cases hp : p x = true
    · rw [if_pos hp]
      refine pure D _ x h' _ (List.mem_of_getElem? ex) hp hs ?_
      refine gApp.mk hs .here hl hi hz ⟨?_, rfl⟩ Ent.refl
      rw [et, List.filter_append, List.map_append, List.filter_cons_of_pos hp]
      rfl
    · rw [if_neg hp]
      refine gInv.mk hs .here hl hi ⟨?_, rfl⟩ Ent.refl
      rw [et, List.filter_append, List.filter_cons_of_neg hp]
      simp
  · obtain ⟨rfl, rfl⟩ := hg
    rw [List.take_length] at hs
    exact q D h' hs
theorem s_lcPL {nt : NT} {vs : List Nat} {ff : LV → LS} (p : LV → Bool) (g : LV → LV) (H : stars Ps h) (e0 : ∀ h', stars Ps h' → h' a = some (.lst xs)) (ef : ∀ x, nt.put x (lwipe s vs) = some (ff x)) (hz : xs.length ≤ 100000)
    (test : ∀ D acc x h' K, x ∈ xs → stars (pts D (.lst acc) :: Ps) h' → K (p x) h' → lt (ff x) h' X0 K)
    (pure : ∀ D acc x h' K, x ∈ xs → p x = true → stars (pts D (.lst acc) :: Ps) h' → K (g x) h' → le (ff x) h' X0 K) (q : ∀ D h', stars (pts D (.lst ((xs.filter p).map g)) :: Ps) h' → L (.ref D) h') : kLc nt lt le vs s (itL a) h L := by
  refine s_lcL (xs := xs) (fun i acc Qs => acc = ((xs.take i).filter p).map g ∧ Qs = Ps) H (fun D i acc Qs' h' hg hs => by rw [hg.2] at hs; exact e0 _ (stars_drop hs)) ef ⟨_, Ent.refl, rfl, rfl⟩ (fun D i x acc Qs h' ex hi hl hg hs => ?_) (fun D acc Qs h' hl hg hs => ?_)
  · obtain ⟨rfl, rfl⟩ := hg
    have et : xs.take (i + 1) = xs.take i ++ [x] := by
      obtain ⟨hi, rfl⟩ := List.getElem?_eq_some_iff.mp ex
      rw [List.take_succ_eq_append_getElem hi]
    refine test D _ x h' _ (List.mem_of_getElem? ex) hs ?_
    by_cases hp : p x = true
    · rw [if_pos hp]
      refine pure D _ x h' _ (List.mem_of_getElem? ex) hp hs ?_
      refine gApp.mk hs .here hl hi hz ⟨?_, rfl⟩ Ent.refl
      rw [et, List.filter_append, List.map_append, List.filter_cons_of_pos hp]
      rfl
    · rw [if_neg hp]
      refine gInv.mk hs .here hl hi ⟨?_, rfl⟩ Ent.refl
      rw [et, List.filter_append, List.filter_cons_of_neg hp]
      simp
  · obtain ⟨rfl, rfl⟩ := hg
    rw [List.take_length] at hs
    exact q D h' hs
theorem big_at {α : Type} {f : α → HP} {ys : List α} {i : Nat} {x : α} (s : stars Ps h) (k : Pk Ps (big f ys) Qs) (e : ys[i]? = some x) : ∃ R : HP, stars (f x :: R :: Qs) h ∧ ∀ y h' Qs', stars (f y :: R :: Qs') h' → stars (big f (ys.set i y) :: Qs') h' := big_pick (k.out s) e
end
/-- the cells that hold something -/
def isN : LV → Bool
  | .non => false
  | _ => true
def cells2 (c0 c1 : Option Int) : List Int := [c0, c1].filterMap id
theorem cells_filt (c0 c1 : Option Int) : ([cv c0, cv c1].filter isN).map id = (cells2 c0 c1).map .int := by cases c0 <;> cases c1 <;> rfl
theorem mem_cells2 {c0 c1 : Option Int} {x : Int} : x ∈ cells2 c0 c1 ↔ c0 = some x ∨ c1 = some x := by
  unfold cells2
  cases c0 <;> cases c1 <;> simp [eq_comm]
theorem Alike.cv {n : Nat} {h : LH} (c : Option Int) : Alike (n + 1) h (VL.cv c) (VL.cv c) := by
  cases c with
  | none => exact .non
  | some i => exact .int i
/-- the same value of plain kinds -/
inductive Pl : Nat → LV → Prop
  | non {n : Nat} : Pl (n + 1) .non
  | int {n : Nat} {i : Int} : Pl (n + 1) (.int i)
  | str {n : Nat} {z : Str} : Pl (n + 1) (.str z)
  | tup {n : Nat} {xs : List LV} : xs.length ≤ 100000 → (∀ x ∈ xs, Pl n x) → Pl (n + 1) (.tup xs)
theorem Alike.pl {h : LH} : ∀ {n : Nat} {x : LV}, Pl n x → Alike n h x x := by
  intro n x p
  induction p with
  | non => exact .non
  | int => exact .int _
  | str => exact .str _
  | tup hz hx ih =>
    refine .inr (.inl ⟨_, _, rfl, rfl, rfl, hz, fun i a b ea eb => ?_⟩)
    rw [ea] at eb
    cases eb
    exact ih a (List.mem_of_getElem? ea)
theorem Pl.cv {n : Nat} (c : Option Int) : Pl (n + 1) (VL.cv c) := by cases c <;> constructor
theorem Pl.t0 {n : Nat} : Pl (n + 1) (.tup []) := .tup (by show 0 ≤ 100000; decide) fun x hx => absurd hx List.not_mem_nil
theorem Pl.two {n : Nat} {x y : LV} (a : Pl n x) (b : Pl n y) : Pl (n + 1) (.tup [x, y]) := .tup (by show 2 ≤ 100000; decide) fun z hz => by
  simp only [List.mem_cons, List.not_mem_nil, or_false] at hz
  rcases hz with rfl | rfl <;> assumption
theorem Pl.three {n : Nat} {x y z : LV} (a : Pl n x) (b : Pl n y) (c : Pl n z) : Pl (n + 1) (.tup [x, y, z]) := .tup (by show 3 ≤ 100000; decide) fun w hw => by
  simp only [List.mem_cons, List.not_mem_nil, or_false] at hw
  rcases hw with rfl | rfl | rfl <;> assumption
theorem Pl.ints {n : Nat} {ns : List Int} (hz : ns.length ≤ 100000) : Pl (n + 2) (.tup (ns.map .int)) := .tup (by rw [List.length_map]; exact hz) fun x hx => by
  obtain ⟨i, _, rfl⟩ := List.mem_map.mp hx
  exact .int
theorem Pl.press {n : Nat} {tab key : List Int} {z : Str} {age count deed : Int} : Pl (n + 3) (pressF tab key z age count deed) := by
  refine Pl.three .str .int (Pl.ints ?_)
  rw [codedF_length]
  show 5 ≤ 100000
  decide
/-! ### a button and what a law keeps of it -/
structure Bd where
  o : Addr
  c : Addr
  d : Addr
  e : Addr
  B : Bt
def Bd.hp (p : Bd) : HP := stars [bt p.o p.c p.B, dt p.d p.e p.B]
theorem Bd.out {p : Bd} {Ps : List HP} {h : LH} (s : stars (p.hp :: Ps) h) : stars (bt p.o p.c p.B :: dt p.d p.e p.B :: Ps) h := stars_open s
theorem Bd.inn {p : Bd} {Ps : List HP} {h : LH} (s : stars (bt p.o p.c p.B :: dt p.d p.e p.B :: Ps) h) : stars (p.hp :: Ps) h := stars_close (Qs := [bt p.o p.c p.B, dt p.d p.e p.B]) s
theorem isN_cv {c : Option Int} : isN (VL.cv c) = c.isSome := by cases c <;> rfl
theorem cells2_pos {B : Bt} (k : B.ok) : 0 < (cells2 B.c0 B.c1).length := by
  have : B.bd ∈ cells2 B.c0 B.c1 := mem_cells2.mpr k.cc
  exact List.length_pos_of_mem this
theorem cells2_max {B : Bt} (k : B.ok) {m : Int} (hm : m ∈ cells2 B.c0 B.c1) (h : ∀ y, y ∈ cells2 B.c0 B.c1 → y ≤ m) : m = B.bd := by
  have h1 := h B.bd (mem_cells2.mpr k.cc)
  rcases mem_cells2.mp hm with e | e
  · have := k.u0 m e; omega
  · have := k.u1 m e; omega
theorem map_set_same {α β : Type} (f : α → β) {xs : List α} {i : Nat} {x y : α} (e : xs[i]? = some x) (ef : f y = f x) : (xs.set i y).map f = xs.map f := by
  rw [List.map_set, ef, set_same (by rw [List.getElem?_map, e]; rfl)]
theorem set_all {α : Type} {P : α → Prop} {xs : List α} {i : Nat} {y : α} (h : ∀ x ∈ xs, P x) (hy : P y) : ∀ x ∈ xs.set i y, P x := fun x hx => by
  rcases List.mem_or_eq_of_mem_set hx with e | e
  · exact h x e
  · rw [e]; exact hy
theorem snoc_all {α : Type} {P : α → Prop} {xs : List α} {y : α} (h : ∀ x ∈ xs, P x) (hy : P y) : ∀ x ∈ xs ++ [y], P x := fun x hx => by
  rcases List.mem_append.mp hx with e | e
  · exact h x e
  · rw [List.mem_singleton.mp e]; exact hy
theorem Alike.lst {n : Nat} {h : LH} {p r : Addr} {xs : List LV} (hp : h p = some (.lst xs)) (hr : h r = some (.lst xs)) (hz : xs.length ≤ 100000) (hx : ∀ x ∈ xs, Pl n x) : Alike (n + 1) h (.ref p) (.ref r) :=
  .inr (.inr ⟨p, r, xs, xs, rfl, rfl, hp, hr, rfl, hz, fun i a b ea eb => by
    rw [ea] at eb
    cases eb
    exact Alike.pl (hx a (List.mem_of_getElem? ea))⟩)
theorem getL_map {α : Type} {f : α → LV} {xs : List α} {i : Int} {x : α} (h0 : 0 ≤ i) (e : xs[i.toNat]? = some x) : atI (xs.map f) i = some (f x) := by
  have hl := (List.getElem?_eq_some_iff.mp e).1
  rw [atI_nat h0 (by rw [List.length_map]; omega), List.getElem?_map, e]
  rfl
theorem get_of {α : Type} {xs : List α} {i : Nat} (h : i < xs.length) : ∃ x, xs[i]? = some x := ⟨_, List.getElem?_eq_getElem h⟩
theorem map_get {α : Type} {f : α → LV} {xs : List α} {i : Nat} {y : LV} (e : (xs.map f)[i]? = some y) : ∃ x, xs[i]? = some x ∧ y = f x := by
  rw [List.getElem?_map] at e
  cases q : xs[i]? with
  | none => rw [q] at e; cases e
  | some x => rw [q] at e; cases e; exact ⟨x, rfl, rfl⟩
def Bt.row (B : Bt) : LV := .tup [.str B.z, .tup (B.tab.map .int), .tup (B.key.map .int), .int B.age]
theorem Bt.press_row {B : Bt} : B.press.row = B.row := by
  obtain ⟨e1, e2, e3, e4, e5⟩ := B.press_z
  unfold Bt.row
  rw [e1, e2, e3, e4]
/-- a button made anew is right -/
theorem Bt.ok.new {z : Str} {tab key : List Int} {age step : Int} (ht : tab.Perm (rgL 16)) (hz : Low z) (h1 : 1 ≤ step) (h2 : step ≤ 64) : Bt.ok ⟨z, tab, key, age, step, 0, 0, some 0, none⟩ :=
  ⟨by show tab.length = 16; rw [ht.length_eq]; rfl, hz, h1, h2, Int.le_refl _, Int.le_refl _, by show (0 : Int) ≤ 4096; decide, .inl rfl, fun x hx => by cases hx; exact ⟨Int.le_refl _, Int.le_refl _⟩, fun x hx => by cases hx⟩
end VL

set_option Elab.async false
set_option linter.all false
set_option maxRecDepth 100000
set_option maxHeartbeats 2000000
namespace VL
open PySem PySem.Spec PyProof.Rows L2
/-! ### coding back -/
def Digs (m : List Int) : Prop := ∀ x ∈ m, 0 ≤ x ∧ x < 16
def stepD (back : List Int) (turn : Int) (m : List Int) (p : Nat) : List Int := m.set p ((gI back (gI m p) - turn - p - gI m ((p : Int) - 1)) % 16)
def roundD (back : List Int) (m : List Int) (turn : Int) : List Int := (List.range m.length).reverse.foldl (stepD back turn) m
def backS (tab b : List Int) (p : Nat) : List Int := b.set (gI tab p).toNat (p : Int)
def backF (tab : List Int) : List Int := (List.range tab.length).foldl (backS tab) (List.replicate 16 0)
def decodedF (tab key dig : List Int) : List Int := key.reverse.foldl (roundD (backF tab)) dig
theorem gI_mem {m : List Int} {i : Int} (h0 : -1 ≤ i) (h1 : i < m.length) (h2 : 0 < m.length) : gI m i ∈ m := by
  unfold gI
  split
  · have hz : i.toNat < m.length := by omega
    rw [List.getD_eq_getElem?_getD, List.getElem?_eq_getElem hz]
    exact List.getElem_mem hz
  · have hz : m.length - (-i).toNat < m.length := by omega
    rw [List.getD_eq_getElem?_getD, List.getElem?_eq_getElem hz]
    exact List.getElem_mem hz
theorem gI_nat {m : List Int} {p : Nat} (h : p < m.length) : gI m (p : Int) = m[p] := by
  unfold gI
  rw [if_pos (by omega), Int.toNat_natCast, List.getD_eq_getElem?_getD, List.getElem?_eq_getElem h]
  rfl
theorem gI_set_same {m : List Int} {p : Nat} {x : Int} (h : p < m.length) : gI (m.set p x) (p : Int) = x := by
  rw [gI_nat (by rw [List.length_set]; exact h), List.getElem_set_self]
theorem gI_set_prev {m : List Int} {p : Nat} {x : Int} (h : p < m.length) (h2 : 2 ≤ m.length) : gI (m.set p x) ((p : Int) - 1) = gI m ((p : Int) - 1) := by
  unfold gI
  rw [List.length_set]
  split
  · rw [List.getD_eq_getElem?_getD, List.getD_eq_getElem?_getD, List.getElem?_set_ne (by omega)]
  · have : p = 0 := by omega
    subst this
    rw [List.getD_eq_getElem?_getD, List.getD_eq_getElem?_getD, List.getElem?_set_ne]
    have : (-((0 : Nat) - 1 : Int)).toNat = 1 := rfl
    rw [this]
    omega
theorem gI_set_ne {m : List Int} {p : Nat} {j x : Int} (h : 0 ≤ j) (n : p ≠ j.toNat) : gI (m.set p x) j = gI m j := by
  unfold gI
  rw [if_pos h, if_pos h, List.getD_eq_getElem?_getD, List.getD_eq_getElem?_getD, List.getElem?_set_ne n]
/-- a table as it should be, and what leads back -/
structure Tab (tab : List Int) : Prop where
  len : tab.length = 16
  dig : Digs tab
  nd : tab.Nodup
theorem Tab.of_perm {tab : List Int} (h : tab.Perm (rgL 16)) : Tab tab := by
  refine ⟨by rw [h.length_eq]; rfl, fun x hx => ?_, (h.nodup_iff).mpr (by decide)⟩
  have := h.mem_iff.mp hx
  unfold rgL at this
  obtain ⟨i, hi, rfl⟩ := List.mem_map.mp this
  have := List.mem_range.mp hi
  show 0 ≤ (i : Int) ∧ (i : Int) < 16
  omega
theorem back_fold {tab : List Int} (T : Tab tab) : ∀ n : Nat, n ≤ 16 → ((List.range n).foldl (backS tab) (List.replicate 16 0)).length = 16 ∧ ∀ i : Nat, i < n → gI ((List.range n).foldl (backS tab) (List.replicate 16 (0 : Int))) (gI tab i) = i
  | 0, _ => ⟨by simp, fun i h => absurd h (Nat.not_lt_zero _)⟩
  | n + 1, hn => by
    obtain ⟨h1, h2⟩ := back_fold T n (by omega)
    rw [List.range_succ, List.foldl_append]
    generalize (List.range n).foldl (backS tab) (List.replicate 16 (0 : Int)) = B at h1 h2
    have hb : ∀ i : Nat, i < 16 → 0 ≤ gI tab i ∧ gI tab i < 16 := fun i hi => T.dig _ (gI_mem (by omega) (by rw [T.len]; omega) (by rw [T.len]; omega))
    refine ⟨by show (B.set _ _).length = 16; rw [List.length_set, h1], fun i hi => ?_⟩
    show gI (B.set (gI tab n).toNat (n : Int)) (gI tab i) = i
    have bi := hb i (by omega)
    have bn := hb n (by omega)
    by_cases e : i = n
    · subst e
      have e2 : gI tab i = ((gI tab i).toNat : Int) := by omega
      rw [e2]
      have e3 : ((gI tab i).toNat : Int).toNat = (gI tab i).toNat := by omega
      rw [e3]
      exact gI_set_same (by omega)
    · have ne : (gI tab n).toNat ≠ (gI tab i).toNat := by
        intro q
        have q2 : gI tab n = gI tab i := by omega
        rw [gI_nat (by rw [T.len]; omega), gI_nat (by rw [T.len]; omega)] at q2
        exact e ((List.getElem_inj T.nd).mp q2).symm
      rw [gI_set_ne bi.1 ne]
      exact h2 i (by omega)
theorem back_of {tab : List Int} (T : Tab tab) {i : Int} (h0 : 0 ≤ i) (h1 : i < 16) : gI (backF tab) (gI tab i) = i := by
  have h := (back_fold T 16 (Nat.le_refl _)).2 i.toNat (by omega)
  have e : (i.toNat : Int) = i := by omega
  rw [e] at h
  unfold backF
  rw [T.len]
  exact h
theorem stepC_digs {tab : List Int} (T : Tab tab) {turn : Int} {m : List Int} {p : Nat} (d : Digs m) : Digs (stepC tab turn m p) := fun x hx => by
  rcases List.mem_or_eq_of_mem_set hx with e | e
  · exact d x e
  · rw [e]
    have r0 := Int.emod_nonneg (gI m p + turn + p + gI m ((p : Int) - 1)) (b := 16) (by omega)
    have r1 := Int.emod_lt_of_pos (gI m p + turn + p + gI m ((p : Int) - 1)) (b := 16) (by omega)
    exact T.dig _ (gI_mem (by omega) (by rw [T.len]; omega) (by rw [T.len]; omega))
theorem step_back {tab : List Int} (T : Tab tab) {turn : Int} {m : List Int} {p : Nat} (d : Digs m) (hp : p < m.length) (h2 : 2 ≤ m.length) : stepD (backF tab) turn (stepC tab turn m p) p = m := by
  unfold stepD stepC
  rw [gI_set_same hp, gI_set_prev hp h2, List.set_set]
  have r0 := Int.emod_nonneg (gI m p + turn + p + gI m ((p : Int) - 1)) (b := 16) (by omega)
  have r1 := Int.emod_lt_of_pos (gI m p + turn + p + gI m ((p : Int) - 1)) (b := 16) (by omega)
  rw [back_of T r0 r1]
  have dm := d _ (gI_mem (m := m) (i := p) (by omega) (by omega) (by omega))
  have e : ((gI m p + turn + p + gI m ((p : Int) - 1)) % 16 - turn - p - gI m ((p : Int) - 1)) % 16 = gI m p := by omega
  rw [e, gI_nat hp]
  exact List.set_getElem_self hp
theorem fold_back {tab : List Int} (T : Tab tab) {turn : Int} : ∀ (ps : List Nat) (m : List Int), Digs m → 2 ≤ m.length → (∀ p ∈ ps, p < m.length) → ps.reverse.foldl (stepD (backF tab) turn) (ps.foldl (stepC tab turn) m) = m
  | [], _, _, _, _ => rfl
  | p :: ps, m, d, h2, hp => by
    have hl := stepC_length (tab := tab) (turn := turn) (m := m) (p := p)
    rw [List.foldl_cons, List.reverse_cons, List.foldl_append, fold_back T ps _ (stepC_digs T d) (by rw [hl]; exact h2) (fun q hq => by rw [hl]; exact hp q (List.mem_cons_of_mem _ hq))]
    exact step_back T d (hp p List.mem_cons_self) h2
theorem foldC_digs {tab : List Int} (T : Tab tab) {turn : Int} : ∀ (ps : List Nat) (m : List Int), Digs m → Digs (ps.foldl (stepC tab turn) m)
  | [], _, d => d
  | p :: ps, m, d => foldC_digs T ps _ (stepC_digs T d)
theorem round_back {tab : List Int} (T : Tab tab) {turn : Int} {m : List Int} (d : Digs m) (h2 : 2 ≤ m.length) : roundD (backF tab) (roundC tab m turn) turn = m := by
  unfold roundD
  rw [roundC_length]
  exact fold_back T _ m d h2 fun p hp => List.mem_range.mp hp
theorem codedF_digs {tab : List Int} (T : Tab tab) : ∀ {key dig : List Int}, Digs dig → Digs (codedF tab key dig)
  | [], _, d => d
  | t :: key, dig, d => codedF_digs T (key := key) (foldC_digs T _ _ d)
theorem decode_code {tab : List Int} (T : Tab tab) : ∀ {key dig : List Int}, Digs dig → 2 ≤ dig.length → decodedF tab key (codedF tab key dig) = dig
  | [], _, _, _ => rfl
  | t :: key, dig, d, h2 => by
    unfold decodedF
    rw [List.reverse_cons, List.foldl_append]
    have e := decode_code T (key := key) (dig := roundC tab dig t) (foldC_digs T _ _ d) (by rw [roundC_length]; exact h2)
    unfold decodedF at e
    have e2 : codedF tab (t :: key) dig = codedF tab key (roundC tab dig t) := rfl
    rw [e2, e]
    exact round_back T d h2
theorem roundD_length {back : List Int} {m : List Int} {turn : Int} : (roundD back m turn).length = m.length := by
  unfold roundD
  generalize (List.range m.length).reverse = ps
  induction ps generalizing m with
  | nil => rfl
  | cons p ps ih => rw [List.foldl_cons, ih]; unfold stepD; rw [List.length_set]
theorem decodedF_length {tab : List Int} {key dig : List Int} : (decodedF tab key dig).length = dig.length := by
  unfold decodedF
  generalize key.reverse = ks
  induction ks generalizing dig with
  | nil => rfl
  | cons t ks ih => rw [List.foldl_cons, ih, roundD_length]
/-- what a press tells -/
def codeF (tab key : List Int) (z : Str) (count deed : Int) : List Int := codedF tab (keyF tab key z) (digsF count deed ++ [(digsF count deed).sum % 16])
theorem pressF_eq {tab key : List Int} {z : Str} {age count deed : Int} : pressF tab key z age count deed = .tup [.str z, .int age, .tup ((codeF tab key z count deed).map .int)] := rfl
theorem codeF_length {tab key : List Int} {z : Str} {count deed : Int} : (codeF tab key z count deed).length = 5 := by unfold codeF; rw [codedF_length]; rfl
def readF (tab key : List Int) (z : Str) (code : List Int) : Option (Int × Int) :=
  let d := decodedF tab (keyF tab key z) code
  if (gI d 0 + gI d 1 + gI d 2 + gI d 3) % 16 = gI d 4 then some (gI d 0 + 16 * (gI d 1 + 16 * gI d 2), gI d 3) else none
theorem digs_ok {count deed : Int} (h0 : 0 ≤ count) (h1 : count < 4096) (d0 : 0 ≤ deed) (d1 : deed < 16) : Digs (digsF count deed ++ [(digsF count deed).sum % 16]) := fun x hx => by
  unfold digsF at hx
  simp only [List.cons_append, List.nil_append, List.mem_cons, List.not_mem_nil, or_false] at hx
  rcases hx with rfl | rfl | rfl | rfl | rfl <;> omega
theorem codeF_digs {tab key : List Int} {z : Str} {count deed : Int} (T : Tab tab) (h0 : 0 ≤ count) (h1 : count < 4096) (d0 : 0 ≤ deed) (d1 : deed < 16) : Digs (codeF tab key z count deed) := codedF_digs T (digs_ok h0 h1 d0 d1)
theorem read_code {tab key : List Int} {z : Str} {count deed : Int} (T : Tab tab) (h0 : 0 ≤ count) (h1 : count < 4096) (d0 : 0 ≤ deed) (d1 : deed < 16) : readF tab key z (codeF tab key z count deed) = some (count, deed) := by
  unfold readF codeF
  rw [decode_code T (digs_ok h0 h1 d0 d1) (by show 2 ≤ 5; decide)]
  have e : digsF count deed ++ [(digsF count deed).sum % 16] = [count % 16, count / 16 % 16, count / 256, deed, (digsF count deed).sum % 16] := rfl
  rw [e]
  have es : (digsF count deed).sum = count % 16 + (count / 16 % 16 + (count / 256 + (deed + 0))) := rfl
  show (if (count % 16 + count / 16 % 16 + count / 256 + deed) % 16 = (digsF count deed).sum % 16 then some (count % 16 + 16 * (count / 16 % 16 + 16 * (count / 256)), deed) else none) = _
  rw [if_pos (by rw [es]; congr 1; omega)]
  congr 2
  omega
end VL

set_option Elab.async false
set_option linter.all false
set_option maxRecDepth 100000
set_option maxHeartbeats 2000000
namespace VL
open PySem PySem.Spec PyProof.Rows L2
/-! ### sorted -/
theorem ltC_irr : ∀ a : List Nat, ltCps a a = false
  | [] => rfl
  | a :: r => by simp [ltCps, ltC_irr r]
theorem ltC_anti : ∀ {a b : List Nat}, ltCps a b = false → ltCps b a = false → a = b
  | [], [], _, _ => rfl
  | [], _ :: _, h, _ => by simp [ltCps] at h
  | _ :: _, [], _, h => by simp [ltCps] at h
  | a :: r, b :: t, h, h2 => by
    simp only [ltCps, Bool.or_eq_false_iff, decide_eq_false_iff_not, Bool.and_eq_false_iff] at h h2
    have e : a = b := by omega
    subst e
    have h3 := h.2.resolve_left (by simp)
    have h4 := h2.2.resolve_left (by simp)
    rw [ltC_anti h3 h4]
theorem ltC_trans : ∀ {a b c : List Nat}, ltCps b a = false → ltCps c b = false → ltCps c a = false
  | [], _, [], _, _ => rfl
  | [], [], _ :: _, _, _ => rfl
  | [], _ :: _, _ :: _, _, _ => rfl
  | _ :: _, [], _, h, _ => by simp [ltCps] at h
  | a :: r, b :: t, [], h, h2 => by simp [ltCps] at h2
  | a :: r, b :: t, c :: u, h, h2 => by
    simp only [ltCps, Bool.or_eq_false_iff, decide_eq_false_iff_not, Bool.and_eq_false_iff, beq_eq_false_iff_ne] at h h2 ⊢
    refine ⟨by omega, ?_⟩
    by_cases e : c = a
    · subst e
      have e2 : b = c := by omega
      subst e2
      exact .inr (ltC_trans (h.2.resolve_left (fun q => q rfl)) (h2.2.resolve_left (fun q => q rfl)))
    · exact .inl e
theorem ltC_total : ∀ {a b : List Nat}, ltCps a b = true → ltCps b a = false
  | [], [], h => by simp [ltCps] at h
  | [], _ :: _, _ => rfl
  | _ :: _, [], h => by simp [ltCps] at h
  | a :: r, b :: t, h => by
    simp only [ltCps, Bool.or_eq_true, decide_eq_true_eq, Bool.and_eq_true, beq_iff_eq] at h
    simp only [ltCps, Bool.or_eq_false_iff, decide_eq_false_iff_not, Bool.and_eq_false_iff, beq_eq_false_iff_ne]
    rcases h with h | ⟨h, h2⟩
    · exact ⟨by omega, .inl (by omega)⟩
    · exact ⟨by omega, .inr (ltC_total h2)⟩
def leS (a b : Str) : Bool := !ltCps b.cps.toList a.cps.toList
theorem leS_trans (a b c : Str) (h : leS a b = true) (h2 : leS b c = true) : leS a c = true := by
  unfold leS at *
  simp only [Bool.not_eq_true'] at *
  exact ltC_trans h h2
theorem leS_total (a b : Str) : (leS a b || leS b a) = true := by
  unfold leS
  cases e : ltCps b.cps.toList a.cps.toList with
  | false => rfl
  | true => rw [ltC_total e]; rfl
theorem leS_anti {a b : Str} (h : leS a b = true) (h2 : leS b a = true) : a = b := by
  unfold leS at *
  simp only [Bool.not_eq_true'] at *
  have e := ltC_anti h2 h
  obtain ⟨a⟩ := a
  obtain ⟨b⟩ := b
  have e2 : a.toList = b.toList := e
  rw [Array.toList_inj.mp e2]
theorem rising_pw : ∀ {x : Str} {r : List Str}, risingS x r = true → (x :: r).Pairwise (fun a b => leS a b = true)
  | x, [], _ => List.pairwise_singleton _ _
  | x, y :: r, h => by
    simp only [risingS, Bool.and_eq_true] at h
    have ih := rising_pw h.2
    refine List.Pairwise.cons (fun z hz => ?_) ih
    rcases List.mem_cons.mp hz with e | e
    · rw [e]; exact h.1
    · exact leS_trans _ _ _ h.1 ((List.pairwise_cons.mp ih).1 z e)
theorem sortedS_pw {l : List Str} (h : sortedS l = true) : l.Pairwise (fun a b => leS a b = true) := by
  cases l with
  | nil => exact List.Pairwise.nil
  | cons x r => exact rising_pw h
theorem sort_uniq {α : Type} {le : α → α → Bool} (anti : ∀ a b, le a b = true → le b a = true → a = b) : ∀ {l m : List α}, l.Perm m → l.Pairwise (fun a b => le a b = true) → m.Pairwise (fun a b => le a b = true) → l = m
  | [], m, p, _, _ => by rw [List.nil_perm.mp p]
  | x :: l, [], p, _, _ => by have := p.length_eq; simp at this
  | x :: l, y :: m, p, h1, h2 => by
    have hx : x = y := by
      have mx := p.mem_iff.mp (List.mem_cons_self (a := x) (l := l))
      have my := p.mem_iff.mpr (List.mem_cons_self (a := y) (l := m))
      rcases List.mem_cons.mp mx with e | e
      · exact e
      · rcases List.mem_cons.mp my with e' | e'
        · exact e'.symm
        · exact anti _ _ ((List.pairwise_cons.mp h1).1 y e') ((List.pairwise_cons.mp h2).1 x e)
    subst hx
    rw [sort_uniq anti ((List.perm_cons _).mp p) (List.pairwise_cons.mp h1).2 (List.pairwise_cons.mp h2).2]
def srtS (l : List Str) : List Str := l.mergeSort leS
theorem srtS_of {l m : List Str} (p : m.Perm l) (s : sortedS m = true) : m = srtS l :=
  sort_uniq (fun _ _ => leS_anti) (p.trans (List.mergeSort_perm l leS).symm) (sortedS_pw s) (List.pairwise_mergeSort (le := leS) leS_trans leS_total l)
def leI (a b : Int) : Bool := decide (a ≤ b)
def srtI (l : List Int) : List Int := l.mergeSort leI
theorem srtI_of {l m : List Int} (p : m.Perm l) (s : m.Pairwise (· ≤ ·)) : m = srtI l :=
  sort_uniq (le := leI) (fun a b h1 h2 => by unfold leI at *; simp only [decide_eq_true_eq] at *; omega) (p.trans (List.mergeSort_perm l leI).symm) (s.imp fun h => by unfold leI; exact decide_eq_true h)
    (List.pairwise_mergeSort (le := leI) (fun a b c h1 h2 => by unfold leI at *; simp only [decide_eq_true_eq] at *; omega) (fun a b => by unfold leI; simp only [Bool.or_eq_true, decide_eq_true_eq]; omega) l)
theorem srtS_perm (l : List Str) : (srtS l).Perm l := List.mergeSort_perm l leS
theorem srtI_perm (l : List Int) : (srtI l).Perm l := List.mergeSort_perm l leI
theorem srtI_pw (l : List Int) : (srtI l).Pairwise (· ≤ ·) := (List.pairwise_mergeSort (le := leI) (fun a b c h1 h2 => by unfold leI at *; simp only [decide_eq_true_eq] at *; omega) (fun a b => by unfold leI; simp only [Bool.or_eq_true, decide_eq_true_eq]; omega) l).imp fun h => by unfold leI at h; exact of_decide_eq_true h
def keyStrs : List (Key × LV) → Option (List Str)
  | [] => some []
  | (.inr z, _) :: r => (keyStrs r).map (z :: ·)
  | _ => none
theorem keyStrs_ok {K : PySem.W.Frag} {H : Hp} : ∀ {kvs : List (Key × LV)} {ws : List (Key × V)} {ks : List Str}, RKs K H id kvs ws → keyStrs kvs = some ks → ws.map (·.1) = ks.map Sum.inr
  | [], _, ks, .nil, e => by cases e; rfl
  | (k, x) :: r, _, ks, .cons (v := v) (m := m) a b, e => by
    cases k with
    | inl i => cases e
    | inr z =>
      unfold keyStrs at e
      cases q : keyStrs r with
      | none => rw [q] at e; cases e
      | some ks' =>
        rw [q] at e
        cases e
        show Sum.inr z :: m.map (·.1) = _
        rw [keyStrs_ok b q]
        rfl
def gSorted : LCR := fun xs h L => match xs with
  | [.ref a] => (match h a with
    | some (.lst ys) => (match intsOf ys with
      | some ns => ns.length < 64 ∧ cNew (.lst ((srtI ns).map .int)) L h
      | none => (match strsOf ys with
        | some zs => zs.length < 64 ∧ cNew (.lst ((srtS zs).map .str)) L h
        | none => False))
    | some (.dic kvs) => (match keyStrs kvs with
      | some ks => ks.length < 64 ∧ cNew (.lst ((srtS ks).map .str)) L h
      | none => False)
    | _ => False)
  | _ => False
def rSortedD : List V → Hp → VK → Prop := fun xs H Q => ∃ (a : Addr) (kvs : List (Key × V)) (ks : List Str), xs = [.ref a] ∧ Rd H a (.dK kvs) ∧ kvs.map (·.1) = ks.map Sum.inr ∧ ks.length < 64 ∧ ∀ ys p, ys.Perm ks → sortedS ys = true → H p = none → Q (.ref p) (upd H p (.lst (ys.map V.str)))
def rSorted5 (K : PySem.W.Frag) : List V → Hp → VK → Prop := fun xs H Q => rSorted K xs H Q ∨ (rSortedS K xs H Q ∨ rSortedD xs H Q)
theorem call_sorted5 {X : Cx} (hc : X.calm = true) : CallR X (.builtin "sorted") (rSorted5 X.K) := CallR.or cr_sorted (CallR.or cr_sortedS (call_sortedD hc))
theorem src_sorted {K : PySem.W.Frag} : SRC K (rSorted5 K) gSorted := fun H h xs vs L Q rh rx g o => by
  unfold gSorted at g
  split at g
  · rename_i a
    cases rx with
    | cons r1 r2 =>
      cases r2
      cases r1
      split at g
      · rename_i ys ea
        obtain ⟨us, e1, hr⟩ := rh a _ ea
        split at g
        · rename_i ns en
          have e2 := intsOf_ok hr en
          subst e2
          refine .inl ⟨a, ns, rfl, SqL.of e1, g.1, fun ns' p hp hs hn => ?_⟩
          rw [srtI_of hp hs]
          exact o _ _ (.ref p) _ (.new hn) (rh.lay hn (.mkL upd_same (RVs.ints _))) (.ref p) (g.2 p (rh.fresh hn))
        · split at g
          · rename_i zs ez
            have e2 := strsOf_ok hr ez
            subst e2
            refine .inr (.inl ⟨a, zs, rfl, SqL.of e1, g.1, fun ns' p hp hs hn => ?_⟩)
            rw [srtS_of hp hs]
            exact o _ _ (.ref p) _ (.new hn) (rh.lay hn (.mkL upd_same (RVs.strs _))) (.ref p) (g.2 p (rh.fresh hn))
          · exact g.elim
      · rename_i kvs ea
        obtain ⟨ws, e1, hr⟩ := rh a _ ea
        split at g
        · rename_i ks ek
          refine .inr (.inr ⟨a, ws, ks, rfl, .inl e1, keyStrs_ok hr ek, g.1, fun ns' p hp hs hn => ?_⟩)
          rw [srtS_of hp hs]
          exact o _ _ (.ref p) _ (.new hn) (rh.lay hn (.mkL upd_same (RVs.strs _))) (.ref p) (g.2 p (rh.fresh hn))
        · exact g.elim
      · exact g.elim
  · exact g.elim
end VL

set_option Elab.async false
set_option linter.all false
set_option maxRecDepth 100000
set_option maxHeartbeats 2000000
namespace VL
open PySem PySem.Spec PyProof.Rows L2
section
variable {h : LH} {L : LK} {a : Addr} {ns : List Int} {zs : List Str} {kvs : List (Key × LV)} {ks : List Str} {z w : Str}
theorem strsOf_none {x : Int} {r : List Int} : intsOf ((x :: r).map LV.int) = some (x :: r) := intsOf_map _
theorem s_sorted_i (e : h a = some (.lst (ns.map .int))) (hz : ns.length < 64) (q : cNew (.lst ((srtI ns).map .int)) L h) : gSorted [.ref a] h L := by
  unfold gSorted
  dsimp only
  rw [e]
  dsimp only
  rw [intsOf_map]
  exact ⟨hz, q⟩
theorem intsOf_strs : ∀ {zs : List Str}, intsOf (zs.map LV.str) = if zs = [] then some [] else none
  | [] => rfl
  | z :: r => by rw [if_neg (List.cons_ne_nil _ _)]; rfl
theorem s_sorted_s (e : h a = some (.lst (zs.map .str))) (hz : zs.length < 64) (q : cNew (.lst ((srtS zs).map .str)) L h) : gSorted [.ref a] h L := by
  unfold gSorted
  dsimp only
  rw [e]
  dsimp only
  rw [intsOf_strs]
  by_cases hn : zs = []
  · subst hn
    rw [if_pos rfl]
    have e0 : ([] : List LV) = List.map LV.int (srtI []) := by unfold srtI; rw [List.mergeSort_nil]; rfl
    have e1 : ([] : List LV) = List.map LV.str (srtS []) := by unfold srtS; rw [List.mergeSort_nil]; rfl
    rw [← e1] at q
    show ([] : List Int).length < 64 ∧ cNew (.lst (List.map LV.int (srtI []))) L h
    rw [← e0]
    exact ⟨by decide, q⟩
  · rw [if_neg hn]
    dsimp only
    rw [strsOf_map]
    exact ⟨hz, q⟩
theorem s_sorted_d (e : h a = some (.dic kvs)) (ek : keyStrs kvs = some ks) (hz : ks.length < 64) (q : cNew (.lst ((srtS ks).map .str)) L h) : gSorted [.ref a] h L := by
  unfold gSorted
  dsimp only
  rw [e]
  dsimp only
  rw [ek]
  exact ⟨hz, q⟩
theorem i_eq_strT (e : z = w) (q : L (.bl true) h) : gEqW id (.str z) (.str w) h L := i_eq_str (by rw [decide_eq_true e]; exact q)
theorem i_eq_strF (e : z ≠ w) (q : L (.bl false) h) : gEqW id (.str z) (.str w) h L := i_eq_str (by rw [decide_eq_false e]; exact q)
theorem i_ne_strT (e : z = w) (q : L (.bl false) h) : gEqW (!·) (.str z) (.str w) h L := i_ne_str (by rw [decide_eq_true e]; exact q)
theorem i_ne_strF (e : z ≠ w) (q : L (.bl true) h) : gEqW (!·) (.str z) (.str w) h L := i_ne_str (by rw [decide_eq_false e]; exact q)
end
/-! ### what is known of a button -/
abbrev tupI (xs : List Int) : LV := .tup (xs.map .int)
def wv : Option (Int × Int) → LV
  | none => .non
  | some p => .tup [.int p.1, .int p.2]
structure En where
  age : Int
  last : Int
  w : Option (Int × Int)
def En.lv (e : En) : LV := .tup [.int e.age, .int e.last, wv e.w]
abbrev Ents := List (Str × En)
def dent (es : Ents) : List (Key × LV) := es.map fun p => (.inr p.1, p.2.lv)
def eget (es : Ents) (z : Str) : Option En := (es.find? fun p => decide (p.1 = z)).map (·.2)
def eput (es : Ents) (z : Str) (e : En) : Ents := if (es.any fun p => decide (p.1 = z)) = true then es.map (fun p => if p.1 = z then (p.1, e) else p) else es ++ [(z, e)]
def edrop (es : Ents) (z : Str) : Ents := es.filter fun p => decide (p.1 ≠ z)
theorem dent_length {es : Ents} : (dent es).length = es.length := List.length_map ..
theorem dec_inr {y z : Str} : decide ((Sum.inr y : Key) = Sum.inr z) = decide (y = z) := by
  by_cases h : y = z
  · rw [decide_eq_true h, decide_eq_true (by rw [h])]
  · rw [decide_eq_false h, decide_eq_false fun e => h (Sum.inr.inj e)]
theorem dent_get {es : Ents} {z : Str} : dget (dent es) (.inr z) = (eget es z).map En.lv := by
  unfold dget eget dent
  induction es with
  | nil => rfl
  | cons p r ih =>
    rw [List.map_cons, List.find?_cons, List.find?_cons]
    dsimp only
    rw [dec_inr]
    cases decide (p.1 = z) with
    | true => rfl
    | false => exact ih
theorem dent_any {es : Ents} {z : Str} : ((dent es).any fun kv => decide (kv.1 = Sum.inr z)) = es.any fun p => decide (p.1 = z) := by
  unfold dent
  rw [List.any_map]
  congr 1
  funext p
  exact dec_inr
theorem dent_put {es : Ents} {z : Str} {e : En} : dput (dent es) (.inr z) e.lv = dent (eput es z e) := by
  unfold dput eput
  rw [dent_any]
  split
  · unfold dent
    rw [List.map_map, List.map_map]
    congr 1
    funext p
    show (if (Sum.inr p.1 : Key) = Sum.inr z then ((Sum.inr p.1 : Key), e.lv) else (Sum.inr p.1, p.2.lv)) = _
    by_cases h : p.1 = z
    · rw [if_pos (by rw [h])]
      show _ = (Sum.inr (if p.1 = z then (p.1, e) else p).1, (if p.1 = z then (p.1, e) else p).2.lv)
      rw [if_pos h]
    · rw [if_neg fun q => h (Sum.inr.inj q)]
      show _ = (Sum.inr (if p.1 = z then (p.1, e) else p).1, (if p.1 = z then (p.1, e) else p).2.lv)
      rw [if_neg h]
  · unfold dent
    rw [List.map_append]
    rfl
theorem dent_drop {es : Ents} {z : Str} : ddrop (dent es) (.inr z) = dent (edrop es z) := by
  unfold ddrop edrop dent
  induction es with
  | nil => rfl
  | cons p r ih =>
    rw [List.map_cons, List.filter_cons, List.filter_cons]
    have e : decide ((Sum.inr p.1 : Key) ≠ Sum.inr z) = decide (p.1 ≠ z) := by simp
    dsimp only
    rw [e]
    split
    · rw [List.map_cons, ih]
    · exact ih
theorem dent_keys {es : Ents} : keyStrs (dent es) = some (es.map (·.1)) := by
  unfold dent
  induction es with
  | nil => rfl
  | cons p r ih =>
    rw [List.map_cons]
    unfold keyStrs
    rw [ih]
    rfl
theorem eget_mem {es : Ents} {z : Str} {e : En} (h : eget es z = some e) : (z, e) ∈ es := by
  unfold eget at h
  cases q : es.find? fun p => decide (p.1 = z) with
  | none => rw [q] at h; cases h
  | some p =>
    rw [q] at h
    cases h
    have h1 := List.find?_some q
    have h2 := List.mem_of_find?_eq_some q
    have e1 : p.1 = z := of_decide_eq_true h1
    subst e1
    exact h2
theorem eget_none {es : Ents} {z : Str} : eget es z = none ↔ ∀ p ∈ es, p.1 ≠ z := by
  unfold eget
  rw [Option.map_eq_none_iff, List.find?_eq_none]
  constructor
  · intro h p hp q
    exact h p hp (decide_eq_true q)
  · intro h p hp q
    exact h p hp (of_decide_eq_true q)
theorem eget_any {es : Ents} {z : Str} {e : En} (h : eget es z = some e) : (es.any fun p => decide (p.1 = z)) = true := List.any_eq_true.mpr ⟨_, eget_mem h, decide_eq_true rfl⟩
theorem eput_names {es : Ents} {z : Str} {e e0 : En} (h : eget es z = some e0) : (eput es z e).map (·.1) = es.map (·.1) := by
  unfold eput
  rw [if_pos (eget_any h), List.map_map]
  congr 1
  funext p
  show (if p.1 = z then (p.1, e) else p).1 = p.1
  split <;> rfl
theorem eput_new {es : Ents} {z : Str} {e : En} (h : eget es z = none) : eput es z e = es ++ [(z, e)] := by
  unfold eput
  rw [if_neg]
  intro q
  obtain ⟨p, hp, q⟩ := List.any_eq_true.mp q
  exact eget_none.mp h p hp (of_decide_eq_true q)
theorem eput_mem {es : Ents} {z : Str} {e : En} {p : Str × En} (h : p ∈ eput es z e) : p ∈ es ∨ p = (z, e) := by
  unfold eput at h
  split at h
  · obtain ⟨q, hq, rfl⟩ := List.mem_map.mp h
    split
    · rename_i e2
      exact .inr (by rw [e2])
    · exact .inl hq
  · rcases List.mem_append.mp h with h | h
    · exact .inl h
    · exact .inr (List.mem_singleton.mp h)
theorem eput_same {es : Ents} {z : Str} {e : En} (hn : (es.map (·.1)).Nodup) (h : eget es z = some e) : eput es z e = es := by
  unfold eput
  rw [if_pos (eget_any h)]
  have hm := eget_mem h
  clear h
  induction es with
  | nil => rfl
  | cons p r ih =>
    rw [List.map_cons, List.nodup_cons] at hn
    rw [List.map_cons]
    rcases List.mem_cons.mp hm with q | q
    · rw [← q, if_pos rfl]
      congr 1
      conv => rhs; rw [← List.map_id r]
      refine List.map_congr_left fun x hx => ?_
      rw [if_neg]
      · rfl
      · intro e2
        rw [← q] at hn
        exact hn.1 (List.mem_map.mpr ⟨x, hx, e2⟩)
    · have ne : p.1 ≠ z := fun e2 => hn.1 (by rw [e2]; exact List.mem_map.mpr ⟨_, q, rfl⟩)
      rw [if_neg ne, ih hn.2 q]
theorem eput_length {es : Ents} {z : Str} {e : En} : (eput es z e).length ≤ es.length + 1 := by
  unfold eput
  split
  · rw [List.length_map]; omega
  · rw [List.length_append]; simp
theorem edrop_length {es : Ents} {z : Str} : (edrop es z).length ≤ es.length := List.length_filter_le ..
/-- the order of names holds under every change of one known -/
def names (es : Ents) : List Str := es.map (·.1)
/-! ### doors -/
structure Dm where
  tab : List Int
  keys : List (List Int)
  near : Int
  far : Int
  most : Int
  closed : Int
  es : Ents
structure Da where
  o : Addr
  k : Addr
  e : Addr
  r : Addr
def Dm.fs (D : Dm) (A : Da) (f : Int) : List (Fd × LV) := [(.table, tupI D.tab), (.house_keys, .ref A.k), (.bounds, .tup [.int D.near, .int D.far, .int D.most]), (.first_keys, .int f), (.least_age, .int D.closed), (.entries, .ref A.e), (.rows, .ref A.r)]
def dr (A : Da) (D : Dm) (f : Int) (rows : List LV) : HP := stars [pts A.o (.ins .Door (D.fs A f)), pts A.k (.lst (D.keys.map tupI)), pts A.e (.dic (dent D.es)), pts A.r (.lst rows)]
theorem dr_out {A : Da} {D : Dm} {f : Int} {rows : List LV} {Ps : List HP} {h : LH} (s : stars (dr A D f rows :: Ps) h) : stars (pts A.o (.ins .Door (D.fs A f)) :: pts A.k (.lst (D.keys.map tupI)) :: pts A.e (.dic (dent D.es)) :: pts A.r (.lst rows) :: Ps) h := stars_open s
theorem Ent.drIn {A : Da} {D : Dm} {f : Int} {rows : List LV} {Cs Ps : List HP} (e : Ent Cs (pts A.o (.ins .Door (D.fs A f)) :: pts A.k (.lst (D.keys.map tupI)) :: pts A.e (.dic (dent D.es)) :: pts A.r (.lst rows) :: Ps)) : Ent Cs (dr A D f rows :: Ps) := fun h s => stars_close (Qs := [pts A.o (.ins .Door (D.fs A f)), pts A.k (.lst (D.keys.map tupI)), pts A.e (.dic (dent D.es)), pts A.r (.lst rows)]) (e h s)
section
variable {A : Da} {D : Dm} {f : Int} {rows : List LV} {Ps Qs : List HP} {h : LH}
theorem dr_get1 (s : stars Ps h) (k : Pk Ps (dr A D f rows) Qs) : h A.o = some (.ins .Door (D.fs A f)) := stars_get0 (dr_out (k.out s))
theorem dr_get2 (s : stars Ps h) (k : Pk Ps (dr A D f rows) Qs) : h A.k = some (.lst (D.keys.map tupI)) := stars_get (dr_out (k.out s)) (.there .here)
theorem dr_get3 (s : stars Ps h) (k : Pk Ps (dr A D f rows) Qs) : h A.e = some (.dic (dent D.es)) := stars_get (dr_out (k.out s)) (.there (.there .here))
theorem dr_get4 (s : stars Ps h) (k : Pk Ps (dr A D f rows) Qs) : h A.r = some (.lst rows) := stars_get (dr_out (k.out s)) (.there (.there (.there .here)))
end
/-- what a law keeps of a door: a dict -/
structure Ma where
  m : Addr
  k : Addr
  d : Addr
def Dm.dd (D : Dm) (a : Ma) : List (Key × LV) := [(.inr "table", tupI D.tab), (.inr "keys", .ref a.k), (.inr "near", .int D.near), (.inr "far", .int D.far), (.inr "most", .int D.most), (.inr "closed", .int D.closed), (.inr "known", .ref a.d)]
def md (a : Ma) (D : Dm) : HP := stars [pts a.m (.dic (D.dd a)), pts a.k (.lst (D.keys.map tupI)), pts a.d (.dic (dent D.es))]
theorem md_out {A : Ma} {D : Dm} {Ps : List HP} {h : LH} (s : stars (md A D :: Ps) h) : stars (pts A.m (.dic (D.dd A)) :: pts A.k (.lst (D.keys.map tupI)) :: pts A.d (.dic (dent D.es)) :: Ps) h := stars_open s
theorem Ent.mdIn {A : Ma} {D : Dm} {Cs Ps : List HP} (e : Ent Cs (pts A.m (.dic (D.dd A)) :: pts A.k (.lst (D.keys.map tupI)) :: pts A.d (.dic (dent D.es)) :: Ps)) : Ent Cs (md A D :: Ps) := fun h s => stars_close (Qs := [pts A.m (.dic (D.dd A)), pts A.k (.lst (D.keys.map tupI)), pts A.d (.dic (dent D.es))]) (e h s)
section
variable {A : Ma} {D : Dm} {Ps Qs : List HP} {h : LH}
theorem md_get1 (s : stars Ps h) (k : Pk Ps (md A D) Qs) : h A.m = some (.dic (D.dd A)) := stars_get0 (md_out (k.out s))
theorem md_get2 (s : stars Ps h) (k : Pk Ps (md A D) Qs) : h A.k = some (.lst (D.keys.map tupI)) := stars_get (md_out (k.out s)) (.there .here)
theorem md_get3 (s : stars Ps h) (k : Pk Ps (md A D) Qs) : h A.d = some (.dic (dent D.es)) := stars_get (md_out (k.out s)) (.there (.there .here))
end
/-- a name -/
structure Nm (z : Str) : Prop where
  low : Low z
  l1 : 1 ≤ z.length
  l8 : z.length ≤ 8
/-- what holds of a door -/
structure Dm.ok (D : Dm) : Prop where
  tab : Tab D.tab
  k1 : 1 ≤ D.keys.length
  k8 : D.keys.length ≤ 8
  kd : ∀ k ∈ D.keys, Digs k ∧ 1 ≤ k.length ∧ k.length ≤ 8
  n1 : 1 ≤ D.near
  n2 : D.near ≤ 64
  f1 : D.near ≤ D.far
  f2 : D.far ≤ 1024
  m1 : 1 ≤ D.most
  m2 : D.most ≤ 12
  c0 : 0 ≤ D.closed
  nd : (names D.es).Nodup
  nm : ∀ p ∈ D.es, Nm p.1
  le : D.es.length ≤ 12
  ev : ∀ p ∈ D.es, 0 ≤ p.2.age ∧ p.2.age < D.keys.length ∧ 0 ≤ p.2.last ∧ p.2.last ≤ 4095
  ew : ∀ p ∈ D.es, ∀ q, p.2.w = some q → 0 ≤ q.1 ∧ 0 ≤ q.2 ∧ q.2 ≤ 4095
/-! ### what a door answers -/
def heldA (w : Str) : LV := .tup [.str "held", .str w]
def openA (z : Str) (deed : Int) : LV := .tup [.str "open", .str z, .int deed]
def Dm.takes (D : Dm) (age : Int) : Prop := D.closed ≤ age ∧ age < D.keys.length
instance (D : Dm) (age : Int) : Decidable (D.takes age) := by unfold Dm.takes; infer_instance
def countF (D : Dm) (e : En) (z : Str) (age count deed : Int) : LV × En :=
  if count ≤ e.last then (heldA "old", e)
  else if count ≤ e.last + D.near then (openA z deed, ⟨age, count, none⟩)
  else if count ≤ e.last + D.far then (if e.w = some (age, count - 1) then (openA z deed, ⟨age, count, none⟩) else (heldA "far", ⟨e.age, e.last, some (age, count)⟩))
  else (heldA "beyond", e)
def ansF (D : Dm) (e : En) (z : Str) (age : Int) (code : List Int) : LV × En :=
  if D.takes age then
    if age < e.age then (heldA "age", e)
    else match readF D.tab (D.keys.getD age.toNat []) z code with
      | none => (heldA "false", e)
      | some cd => countF D e z age cd.1 cd.2
  else (heldA "age", e)
def hearF (D : Dm) (z : Str) (age : Int) (code : List Int) : LV × Dm := match eget D.es z with
  | none => (heldA "unknown", D)
  | some e => ((ansF D e z age code).1, { D with es := eput D.es z (ansF D e z age code).2 })
/-- the same of a right press, told by its count -/
def dueF (D : Dm) (z : Str) (age count deed : Int) : LV × Dm := match eget D.es z with
  | none => (heldA "unknown", D)
  | some e => if D.takes age ∧ ¬ age < e.age then ((countF D e z age count deed).1, { D with es := eput D.es z (countF D e z age count deed).2 }) else (heldA "age", D)
theorem hear_due {D : Dm} (k : D.ok) {z : Str} {age count deed : Int} (a0 : 0 ≤ age) (h0 : 0 ≤ count) (h1 : count < 4096) (d0 : 0 ≤ deed) (d1 : deed < 16) : hearF D z age (codeF D.tab (D.keys.getD age.toNat []) z count deed) = dueF D z age count deed := by
  unfold hearF dueF
  cases q : eget D.es z with
  | none => rfl
  | some e =>
    dsimp only
    have hs : ({ D with es := eput D.es z e } : Dm) = D := by rw [eput_same k.nd q]
    unfold ansF
    rw [read_code k.tab h0 h1 d0 d1]
    by_cases ht : D.takes age
    · by_cases ha : age < e.age
      · rw [if_pos ht, if_pos ha, if_neg (fun c => c.2 ha)]
        dsimp only
        rw [hs]
      · rw [if_pos ht, if_neg ha, if_pos ⟨ht, ha⟩]
    · rw [if_neg ht, if_neg (fun c => ht c.1)]
      dsimp only
      rw [hs]
theorem countF_ok {D : Dm} (k : D.ok) {e : En} {z : Str} {age count deed : Int} (a0 : 0 ≤ age) (a1 : age < D.keys.length) (h0 : 0 ≤ count) (h1 : count < 4096) (he : 0 ≤ e.age ∧ e.age < D.keys.length ∧ 0 ≤ e.last ∧ e.last ≤ 4095) (hw : ∀ q, e.w = some q → 0 ≤ q.1 ∧ 0 ≤ q.2 ∧ q.2 ≤ 4095) :
    (0 ≤ (countF D e z age count deed).2.age ∧ (countF D e z age count deed).2.age < D.keys.length ∧ 0 ≤ (countF D e z age count deed).2.last ∧ (countF D e z age count deed).2.last ≤ 4095) ∧ ∀ q, (countF D e z age count deed).2.w = some q → 0 ≤ q.1 ∧ 0 ≤ q.2 ∧ q.2 ≤ 4095 := by
  unfold countF
  repeat' split
  all_goals first
    | exact ⟨he, hw⟩
    | exact ⟨⟨a0, a1, h0, by show count ≤ 4095; omega⟩, fun q e2 => by cases e2⟩
    | exact ⟨he, fun q e2 => by cases e2; exact ⟨a0, h0, by show count ≤ 4095; omega⟩⟩
theorem put_ok {D : Dm} (k : D.ok) {z : Str} {e : En} (hz : Nm z) (hl : (eput D.es z e).length ≤ 12) (he : 0 ≤ e.age ∧ e.age < D.keys.length ∧ 0 ≤ e.last ∧ e.last ≤ 4095) (hw : ∀ q, e.w = some q → 0 ≤ q.1 ∧ 0 ≤ q.2 ∧ q.2 ≤ 4095) : ({ D with es := eput D.es z e } : Dm).ok := by
  refine ⟨k.tab, k.k1, k.k8, k.kd, k.n1, k.n2, k.f1, k.f2, k.m1, k.m2, k.c0, ?_, fun p hp => ?_, hl, fun p hp => ?_, fun p hp => ?_⟩
  · cases q : eget D.es z with
    | some e0 =>
      show ((eput D.es z e).map (·.1)).Nodup
      rw [eput_names q]
      exact k.nd
    | none =>
      show ((eput D.es z e).map (·.1)).Nodup
      rw [eput_new q, List.map_append, List.nodup_append]
      refine ⟨k.nd, by simp, fun x hx y hy => ?_⟩
      rw [List.mem_singleton.mp hy]
      obtain ⟨p, hp, rfl⟩ := List.mem_map.mp hx
      exact eget_none.mp q p hp
  · rcases eput_mem hp with q | q
    · exact k.nm p q
    · rw [q]; exact hz
  · rcases eput_mem hp with q | q
    · exact k.ev p q
    · rw [q]; exact he
  · rcases eput_mem hp with q | q
    · exact k.ew p q
    · rw [q]; exact hw
theorem due_ok {D : Dm} (k : D.ok) {z : Str} {age count deed : Int} (a0 : 0 ≤ age) (h0 : 0 ≤ count) (h1 : count < 4096) : (dueF D z age count deed).2.ok := by
  unfold dueF
  cases q : eget D.es z with
  | none => exact k
  | some e =>
    dsimp only
    split
    · rename_i c
      have hm := eget_mem q
      have hc := countF_ok k (z := z) (deed := deed) (e := e) a0 c.1.2 h0 h1 (k.ev _ hm) (k.ew _ hm)
      refine put_ok k (k.nm _ hm) ?_ hc.1 hc.2
      have hl : (eput D.es z (countF D e z age count deed).2).length = D.es.length := by
        have := congrArg List.length (eput_names (e := (countF D e z age count deed).2) q)
        rw [List.length_map, List.length_map] at this
        exact this
      rw [hl]
      exact k.le
    · exact k
theorem due_keep {D : Dm} {z : Str} {age count deed : Int} : (dueF D z age count deed).2.tab = D.tab ∧ (dueF D z age count deed).2.keys = D.keys ∧ (dueF D z age count deed).2.near = D.near ∧ (dueF D z age count deed).2.far = D.far ∧ (dueF D z age count deed).2.most = D.most ∧ (dueF D z age count deed).2.closed = D.closed := by
  unfold dueF
  cases eget D.es z with
  | none => exact ⟨rfl, rfl, rfl, rfl, rfl, rfl⟩
  | some e =>
    dsimp only
    split <;> exact ⟨rfl, rfl, rfl, rfl, rfl, rfl⟩
theorem i_eq_wv {w : Option (Int × Int)} {a c : Int} {h : LH} {L : LK} (q : L (.bl (decide (w = some (a, c)))) h) : gEqW id (wv w) (.tup [.int a, .int c]) h L := by
  cases w with
  | none => exact i_eqD (d := .none) (e := .tuple [.int a, .int c]) rfl rfl rfl rfl (by rw [decide_eq_false (by intro z; cases z)] at q; exact q)
  | some p =>
    obtain ⟨x, y⟩ := p
    refine i_eqD (d := .tuple [.int x, .int y]) (e := .tuple [.int a, .int c]) rfl rfl rfl rfl ?_
    have e : decide ((some (x, y) : Option (Int × Int)) = some (a, c)) = PyData.eqv (.tuple [.int x, .int y]) (.tuple [.int a, .int c]) := by
      show _ = ((x == a) && ((y == c) && true))
      by_cases h1 : x = a
      · by_cases h2 : y = c
        · rw [h1, h2]; simp
        · rw [decide_eq_false (by intro z; cases z; exact h2 rfl)]; simp [h2]
      · rw [decide_eq_false (by intro z; cases z; exact h1 rfl)]; simp [h1]
    rw [e] at q
    exact q
/-! ### plain values, == -/
inductive Pq : Nat → LV → Prop
  | non {n : Nat} : Pq (n + 1) .non
  | int {n : Nat} {i : Int} : Pq (n + 1) (.int i)
  | str {n : Nat} {z : Str} : PyData.strOk z = true → Pq (n + 1) (.str z)
  | tup {n : Nat} {xs : List LV} : (∀ x ∈ xs, Pq n x) → Pq (n + 1) (.tup xs)
theorem Pq.dat {h : LH} : ∀ {n : Nat} {x : LV}, Pq n x → ∃ d, toD h n x = some d ∧ d.canLay0 = true ∧ d.depth ≤ n := by
  intro n x p
  induction p with
  | non => exact ⟨.none, rfl, rfl, Nat.zero_le _⟩
  | int => exact ⟨.int _, rfl, rfl, Nat.zero_le _⟩
  | str e => exact ⟨.str _, rfl, e, Nat.zero_le _⟩
  | @tup n xs hx ih =>
    have key : ∀ ys : List LV, (∀ y ∈ ys, ∃ d, toD h n y = some d ∧ d.canLay0 = true ∧ d.depth ≤ n) → ∃ ds, allD (toD h n) ys = some ds ∧ PyData.canLayAll0 ds = true ∧ PyData.depthAll ds ≤ n := by
      intro ys
      induction ys with
      | nil => exact fun _ => ⟨[], rfl, rfl, Nat.zero_le _⟩
      | cons y ys ihy =>
        intro hy
        obtain ⟨d, e1, e2, e3⟩ := hy y List.mem_cons_self
        obtain ⟨ds, f1, f2, f3⟩ := ihy fun z hz => hy z (List.mem_cons_of_mem _ hz)
        refine ⟨d :: ds, ?_, ?_, ?_⟩
        · unfold allD
          rw [e1, f1]
        · unfold PyData.canLayAll0
          rw [e2, f2]
          rfl
        · unfold PyData.depthAll
          exact Nat.max_le.mpr ⟨e3, f3⟩
    obtain ⟨ds, f1, f2, f3⟩ := key xs ih
    refine ⟨.tuple ds, ?_, ?_, ?_⟩
    · unfold toD
      dsimp only
      rw [f1]
    · unfold PyData.canLay0
      exact f2
    · unfold PyData.depth
      omega
theorem i_eq_pl {F : Bool → Bool} {x : LV} {h : LH} {L : LK} (p : Pq 8 x) (q : L (.bl (F true)) h) : gEqW F x x h L := by
  obtain ⟨d, e1, e2, e3⟩ := p.dat (h := h)
  have sh : SeqAt.shaped d = true := by
    unfold SeqAt.shaped
    rw [e2]
    simp
    omega
  have er := SeqAt.eqv_refl d e2
  cases x with
  | int i =>
    show L (.bl (F (decide (i = i)))) h
    rw [decide_eq_true rfl]
    exact q
  | str i =>
    show L (.bl (F (decide (i = i)))) h
    rw [decide_eq_true rfl]
    exact q
  | non => exact q
  | tup xs =>
    show (match toD h 8 (.tup xs), toD h 8 (.tup xs) with
      | some d, some e => SeqAt.shaped d = true ∧ SeqAt.shaped e = true ∧ L (.bl (F (PyData.eqv d e))) h
      | _, _ => False)
    rw [e1]
    exact ⟨sh, sh, by rw [er]; exact q⟩
  | _ => cases p
theorem Low.ok {z : Str} (h : Low z) : PyData.strOk z = true := by
  unfold PyData.strOk
  rw [← Array.all_toList, List.all_eq_true]
  intro c hc
  have := h.2 c hc
  exact decide_eq_true (by omega)
theorem Pq.wv {n : Nat} {w : Option (Int × Int)} : Pq (n + 2) (VL.wv w) := by
  cases w with
  | none => exact .non
  | some p =>
    refine .tup fun x hx => ?_
    simp only [List.mem_cons, List.not_mem_nil, or_false] at hx
    rcases hx with rfl | rfl <;> exact .int
section
variable {h : LH} {L : LK} {a : Addr} {es : Ents} {z : Str} {e : En} {F : Bool → Bool}
theorem i_ix_ent (ea : h a = some (.dic (dent es))) (eq : eget es z = some e) (q : L (.tup [.int e.age, .int e.last, wv e.w]) h) : gIx (.ref a) (.str z) h L := i_ix_dic ea rfl (v := e.lv) (by rw [dent_get, eq]; rfl) q
theorem i_in_entS (ea : h a = some (.dic (dent es))) (eq : eget es z = some e) (q : L (.bl (F true)) h) : gIn F (.str z) (.ref a) h L := by
  unfold gIn
  dsimp only
  rw [ea]
  dsimp only [keyOf]
  rw [dent_get, eq]
  exact q
theorem i_in_entN (ea : h a = some (.dic (dent es))) (eq : eget es z = none) (q : L (.bl (F false)) h) : gIn F (.str z) (.ref a) h L := by
  unfold gIn
  dsimp only
  rw [ea]
  dsimp only [keyOf]
  rw [dent_get, eq]
  exact q
theorem i_idT (q : L (.bl true) h) : L (.bl (id true)) h := q
theorem i_in_S (ea : h a = some (.dic (dent es))) (eq : eget es z = some e) (q : L (.bl true) h) : gIn id (.str z) (.ref a) h L := i_in_entS ea eq q
theorem i_in_N (ea : h a = some (.dic (dent es))) (eq : eget es z = none) (q : L (.bl false) h) : gIn id (.str z) (.ref a) h L := i_in_entN ea eq q
theorem i_notin_S (ea : h a = some (.dic (dent es))) (eq : eget es z = some e) (q : L (.bl false) h) : gIn (!·) (.str z) (.ref a) h L := i_in_entS ea eq q
theorem i_notin_N (ea : h a = some (.dic (dent es))) (eq : eget es z = none) (q : L (.bl true) h) : gIn (!·) (.str z) (.ref a) h L := i_in_entN ea eq q
end
theorem dent_putN {es : Ents} {z : Str} {a l : Int} : dput (dent es) (.inr z) (.tup [.int a, .int l, .non]) = dent (eput es z ⟨a, l, none⟩) := dent_put (e := ⟨a, l, none⟩)
theorem dent_putW {es : Ents} {z : Str} {a l x y : Int} : dput (dent es) (.inr z) (.tup [.int a, .int l, .tup [.int x, .int y]]) = dent (eput es z ⟨a, l, some (x, y)⟩) := dent_put (e := ⟨a, l, some (x, y)⟩)
theorem dent_putE {es : Ents} {z : Str} {a l : Int} {w : Option (Int × Int)} : dput (dent es) (.inr z) (.tup [.int a, .int l, wv w]) = dent (eput es z ⟨a, l, w⟩) := dent_put (e := ⟨a, l, w⟩)
theorem i_in_sign {c : Nat} {z : Str} {h : LH} {L : LK} (q : L (.bl (decide (c ∈ z.cps.toList))) h) : gIn id (.str ⟨#[c]⟩) (.str z) h L := q
instance st_i_in_sign {c : Nat} {z : Str} {h : LH} {L : LK} : Stp (gIn id (.str ⟨#[c]⟩) (.str z) h L) (L (.bl (decide (c ∈ z.cps.toList))) h) := ⟨i_in_sign⟩
theorem low_letters : ∀ k : Fin 26, decide ((97 + k.val) ∈ (letters : Str).cps.toList) = true := by decide +kernel
theorem mem_letters {c : Nat} (h : 97 ≤ c ∧ c < 123) : decide (c ∈ (letters : Str).cps.toList) = true := by
  have e := low_letters ⟨c - 97, by omega⟩
  have e2 : 97 + (c - 97) = c := by omega
  dsimp only at e
  rw [e2] at e
  exact e
theorem allT (k : Nat) : (List.replicate k true).all id = true := by rw [List.all_eq_true]; intro b hb; exact (List.mem_replicate.mp hb).2
/-- rows of keys -/
theorem keys_get {keys : List (List Int)} {age : Int} (h0 : 0 ≤ age) (h1 : age < keys.length) : atI (keys.map tupI) age = some (tupI (keys.getD age.toNat [])) := by
  have hl : age.toNat < keys.length := by omega
  rw [atI_nat h0 (by rw [List.length_map]; exact h1), List.getElem?_map, List.getElem?_eq_getElem hl, List.getD_eq_getElem?_getD, List.getElem?_eq_getElem hl]
  rfl
theorem i_ix_keys {keys : List (List Int)} {age : Int} {a : Addr} {h : LH} {L : LK} (ea : h a = some (.lst (keys.map tupI))) (h0 : 0 ≤ age) (h1 : age < keys.length) (q : L (tupI (keys.getD age.toNat [])) h) : gIx (.ref a) (.int age) h L := i_ix_lst ea (keys_get h0 h1) q
/-- a comprehension over a row by value that changes nothing -/
theorem gLi_seq {s : LS} {h : LH} {L : LK} {le : LTE} {xs : List LV} {x : LV} {Ps Qs : List HP} {nt : NT} {vs : List Nat} {ff : LV → LS} (H : stars Ps h) (e : seqOf h x = some xs) (k : Pk Ps (isq x xs) Qs) (hz : xs.length ≤ 100000) (g : LV → LV) (ef : ∀ x, nt.put x (lwipe s vs) = some (ff x))
    (pure : ∀ D acc x h' K, x ∈ xs → stars (pts D (.lst acc) :: Ps) h' → K (g x) h' → le (ff x) h' X0 K) (q : ∀ D h', stars (pts D (.lst (xs.map g)) :: Ps) h' → L (.ref D) h') : gLi x h fun it h1 => kLc nt lYes le vs s it h1 L := by
  rcases seqOf_split e with rfl | rfl | ⟨a, rfl, ea⟩
  · exact s_lcM g H ef hz pure q
  · exact s_lcM g H ef hz pure q
  · refine i_liL ea ?_
    refine s_lcL (xs := xs) (fun i acc Qs => acc = (xs.take i).map g ∧ Qs = Ps) H (fun D i acc Qs' h' hg hs => by rw [hg.2] at hs; exact isq_get hs k.there) ef ⟨_, Ent.refl, rfl, rfl⟩ (fun D i x acc Qs h' ex hi hl hg hs => ?_) (fun D acc Qs h' hl hg hs => ?_)
    · obtain ⟨rfl, rfl⟩ := hg
      refine pure D _ x h' _ (List.mem_of_getElem? ex) hs ?_
      refine gApp.mk hs .here hl hi hz ⟨?_, rfl⟩ Ent.refl
      obtain ⟨hi, rfl⟩ := List.getElem?_eq_some_iff.mp ex
      rw [List.take_succ_eq_append_getElem hi, List.map_append]
      rfl
    · obtain ⟨rfl, rfl⟩ := hg
      rw [List.take_length] at hs
      exact q D h' hs
/-- the signs of a text of small letters -/
theorem i_len_nm {z : Str} {h : LH} {L : LK} (hz : z.length ≤ 1000) (q : L (.int z.length) h) : gLen [.str z] h L := i_len_str (Nat.le_trans hz (by decide)) q
theorem k_nnT {P Q : Prop} (q : P) : if (!(!true)) = true then P else Q := q
theorem k_nnF {P Q : Prop} (q : Q) : if (!(!false)) = true then P else Q := by rw [if_neg]; exact q; decide
/-! parts opened where they are written -/
section
variable {A : Da} {D : Dm} {f : Int} {rows : List LV} {Cs Qs : List HP} {M : Ma} {o c : Addr} {B : Bt}
theorem ent_dr1 (k : Pk Cs (dr A D f rows) Qs) : Ent Cs (pts A.o (.ins .Door (D.fs A f)) :: pts A.k (.lst (D.keys.map tupI)) :: pts A.e (.dic (dent D.es)) :: pts A.r (.lst rows) :: Qs) := fun h s => dr_out (k.out s)
theorem ent_dr2 (k : Pk Cs (dr A D f rows) Qs) : Ent Cs (pts A.k (.lst (D.keys.map tupI)) :: pts A.o (.ins .Door (D.fs A f)) :: pts A.e (.dic (dent D.es)) :: pts A.r (.lst rows) :: Qs) := (ent_dr1 k).trans (Ent.pk (.there .here) Ent.refl)
theorem ent_dr3 (k : Pk Cs (dr A D f rows) Qs) : Ent Cs (pts A.e (.dic (dent D.es)) :: pts A.o (.ins .Door (D.fs A f)) :: pts A.k (.lst (D.keys.map tupI)) :: pts A.r (.lst rows) :: Qs) := (ent_dr1 k).trans (Ent.pk (.there (.there .here)) Ent.refl)
theorem ent_dr4 (k : Pk Cs (dr A D f rows) Qs) : Ent Cs (pts A.r (.lst rows) :: pts A.o (.ins .Door (D.fs A f)) :: pts A.k (.lst (D.keys.map tupI)) :: pts A.e (.dic (dent D.es)) :: Qs) := (ent_dr1 k).trans (Ent.pk (.there (.there (.there .here))) Ent.refl)
theorem ent_md1 (k : Pk Cs (md M D) Qs) : Ent Cs (pts M.m (.dic (D.dd M)) :: pts M.k (.lst (D.keys.map tupI)) :: pts M.d (.dic (dent D.es)) :: Qs) := fun h s => md_out (k.out s)
theorem ent_md3 (k : Pk Cs (md M D) Qs) : Ent Cs (pts M.d (.dic (dent D.es)) :: pts M.m (.dic (D.dd M)) :: pts M.k (.lst (D.keys.map tupI)) :: Qs) := (ent_md1 k).trans (Ent.pk (.there (.there .here)) Ent.refl)
theorem ent_bt1 (k : Pk Cs (bt o c B) Qs) : Ent Cs (pts o (.ins .Button (B.fs c)) :: pts c (.lst [cv B.c0, cv B.c1]) :: Qs) := fun h s => bt_out (k.out s)
theorem ent_bt2 (k : Pk Cs (bt o c B) Qs) : Ent Cs (pts c (.lst [cv B.c0, cv B.c1]) :: pts o (.ins .Button (B.fs c)) :: Qs) := (ent_bt1 k).trans (Ent.pk (.there .here) Ent.refl)
theorem ent_dt1 (k : Pk Cs (dt o c B) Qs) : Ent Cs (pts o (.dic (dd B.n B.bd c B.step)) :: pts c (.lst [cv B.c0, cv B.c1]) :: Qs) := fun h s => dt_out (k.out s)
theorem ent_dt2 (k : Pk Cs (dt o c B) Qs) : Ent Cs (pts c (.lst [cv B.c0, cv B.c1]) :: pts o (.dic (dd B.n B.bd c B.step)) :: Qs) := (ent_dt1 k).trans (Ent.pk (.there .here) Ent.refl)
end
theorem s_add_tup {xs ys zs : List LV} {h : LH} {L : LK} (e : xs.length + ys.length ≤ 100000) (es : xs ++ ys = zs) (q : L (.tup zs) h) : gAdd (.tup xs) (.tup ys) h L := by
  subst es
  exact i_add_tup e q
theorem i_len_dent {a : Addr} {es : Ents} {h : LH} {L : LK} (e : h a = some (.dic (dent es))) (q : L (.int es.length) h) : gLen [.ref a] h L := i_len_dic e (by rw [dent_length]; exact q)
theorem i_dget_entS {a : Addr} {es : Ents} {z : Str} {e : En} {zo : Option LV} {h : LH} {L : LK} (ea : h a = some (.dic (dent es))) (eq : eget es z = some e) (q : L (.tup [.int e.age, .int e.last, wv e.w]) h) : gDGet zo (.ref a) (.str z) h L := i_dgetG ea rfl (r := e.lv) (by rw [dent_get, eq]; rfl) q
theorem i_dget_entN {a : Addr} {es : Ents} {z : Str} {y : LV} {h : LH} {L : LK} (ea : h a = some (.dic (dent es))) (eq : eget es z = none) (q : L y h) : gDGet (some y) (.ref a) (.str z) h L := i_dgetG ea rfl (r := y) (by rw [dent_get, eq]; rfl) q
theorem dget_hit {k : Key} {v : LV} {r : List (Key × LV)} : dget ((k, v) :: r) k = some v := by unfold dget; rw [List.find?_cons]; simp
theorem dget_miss {k j : Key} {v w : LV} {r : List (Key × LV)} (n : j ≠ k) (e : dget r k = some v) : dget ((j, w) :: r) k = some v := by
  unfold dget at e ⊢
  rw [List.find?_cons]
  simp only [n, decide_false]
  exact e
theorem ent_mdk {D : Dm} {M : Ma} {Cs Qs : List HP} (k : Pk Cs (md M D) Qs) : Ent Cs (isq (.ref M.k) (D.keys.map tupI) :: pts M.m (.dic (D.dd M)) :: pts M.d (.dic (dent D.es)) :: Qs) := ((ent_md1 k).trans (Ent.pk (.there .here) Ent.refl)).trans (ent_isqL .here)
theorem ent_drk {A : Da} {D : Dm} {f : Int} {rows : List LV} {Cs Qs : List HP} (k : Pk Cs (dr A D f rows) Qs) : Ent Cs (isq (.ref A.k) (D.keys.map tupI) :: pts A.o (.ins .Door (D.fs A f)) :: pts A.e (.dic (dent D.es)) :: pts A.r (.lst rows) :: Qs) := (ent_dr2 k).trans (ent_isqL .here)
end VL

set_option Elab.async false
set_option linter.all false
set_option maxRecDepth 100000
set_option maxHeartbeats 4000000
/-! enumerate of a tuple -/
namespace PySem
open Sem (wp)
open PySem.W
theorem vl_enumerate_new {v : Value} {o : Obj} {H : Heap → Prop} (B : Begins v o H) :
    Meets (Builtin.«enumerate.__new__» ⟨[.type "enumerate", v], []⟩) (fun _ R s => H s.heap ∧
      R (.ok (.ret (.ref (s.heap.push o).objs.size))) { s with heap := (s.heap.push o).push { cls := .type "enumerate", data := .fields #[.none, .bool false, .ref s.heap.objs.size, rawInt 0, .none, .none] } }) :=
  .of_wp fun prog w A R s h => by
    obtain ⟨hp, g, d, tk, os⟩ := s; obtain ⟨h1, h⟩ := h
    have hsub := sub_enumerate
    have q1 : ∀ {A' : Around} {E : Value → Shared → Prop} {Q : Value → Shared → Prop}, Q (.ref hp.objs.size) ⟨hp.push o, g, d, tk, os⟩ → wpAny (model prog w) A' (pyIter v) Q E ⟨hp, g, d, tk, os⟩ :=
      fun q => B.iter prog w _ _ ⟨hp, g, d, tk, os⟩ _ h1 q
    wp_walk using q1
    refine wpAny_stack_any fun st => wpAny_pure ?_
    split
    · rename_i c _ _ _ _ _
      cases (c == Value.type "enumerate")
      · wp_walk using q1
        exact ⟨_, rfl, h⟩
      · wp_walk using q1
        exact ⟨_, rfl, h⟩
    · wp_walk using q1
      exact ⟨_, rfl, h⟩
section
variable {prog : Program} {w : World} {A : Around} {E : Value → Shared → Prop} {s : Shared}
theorem vl_enum_begins {v : Value} {o : Obj} {H : Heap → Prop} {Q : Value → Shared → Prop} (B : Begins v o H) (h1 : H s.heap)
    (h : ∀ h', IsEnum h' (s.heap.objs.size + 1) s.heap.objs.size 0 .none → h'.get? s.heap.objs.size = some o → h'.objs.size = s.heap.objs.size + 2 →
      (∀ b o, s.heap.get? b = some o → h'.get? b = some o) → Q (.ref (s.heap.objs.size + 1)) { s with heap := h' }) :
    wpAny (model prog w) A (call (.type "enumerate") [v]) Q E s := by
  refine callType_new F.called_enumerate (by decide) (F.typeCall_enumerate_1 _) (F.newCall_enumerate_1 _) (fun obj => F.args_object_init_2 obj _) F.entry_enumerate_new
    (vl_enumerate_new B) ⟨h1, ?_⟩
  have hz : (s.heap.push o).objs.size = s.heap.objs.size + 1 := Heap.size_push ..
  show _ ∧ _
  rw [hz]
  have he : IsEnum ((s.heap.push o).push { cls := .type "enumerate", data := .fields #[.none, .bool false, .ref s.heap.objs.size, rawInt 0, .none, .none] }) (s.heap.objs.size + 1) s.heap.objs.size 0 .none := by
    have := Heap.get?_push_size (s.heap.push o) (o := { cls := .type "enumerate", data := .fields #[.none, .bool false, .ref s.heap.objs.size, rawInt 0, .none, .none] }) rfl
    rw [hz] at this; exact this
  refine ⟨⟨_, he, rfl⟩, h _ he (Heap.get?_push_of_some _ (Heap.get?_push_size _ B.free)) (by rw [Heap.size_push, hz]) fun b o x => Heap.get?_push_of_some _ (Heap.get?_push_of_some _ x)⟩
end
end PySem
namespace VL
open PySem PySem.Spec PyProof.Rows L2
/-- the tuple at a, each item in a new pair -/
def IteT (K : PySem.W.Frag) (a : Addr) : It :=
  ⟨fun i H => ∃ (xs : List V) (x : V), SqT K H a xs ∧ xs[i]? = some x, fun i H v H' => ∃ T x, v = .ref T ∧ H T = none ∧ H' = upd H T (.tup [.int (i : Nat), x]) ∧ ∀ xs, SqT K H a xs → xs[i]? = some x, fun i H => ∃ xs : List V, SqT K H a xs ∧ xs.length ≤ i⟩
theorem turn_enumT {P : Program} {w : World} {K : PySem.W.Frag} {elts : List Expr} {kk : Nat} {tpos : Pos} (a e it : Addr) :
    Turn P w K (.Tuple elts kk tpos) (IteT K a) [e, it] e (fun i h => (∃ old, IsEnum h e it ((i : Nat) : Int) old) ∧ h.IsTupleIter it a i ∧ e ≠ it) where
  mem := by simp
  obj := fun i h st b hb => by
    obtain ⟨⟨old, he⟩, ⟨o, ho, hc, hd⟩, _⟩ := st
    have e' : b = e ∨ b = it := by simpa using hb
    rcases e' with z | z
    · rw [z]; exact ⟨_, he, fun v q => nomatch q⟩
    · rw [z]; exact ⟨o, ho, fun v q => by rw [hd] at q; cases q⟩
  keep := fun i h h' st k => let ⟨⟨old, he⟩, hi, hne⟩ := st; ⟨⟨old, k e (by simp) _ he⟩, hi.at fun o q => k it (by simp) o q, hne⟩
  item := by
    intro X hP hw hK hc i pins s σ H E I hf st hg
    subst hP hw hK
    obtain ⟨⟨old, he⟩, hit, hne⟩ := st
    obtain ⟨xs, x, hq, hx⟩ := hg
    obtain ⟨its, rv, p, hz⟩ := I.tuple hq
    obtain ⟨u, hu, ru⟩ := rv.get hx
    have hel : e < s.heap.objs.size := Heap.lt_size he
    have hil : it < s.heap.objs.size := by obtain ⟨_, q, _⟩ := hit; exact Heap.lt_size q
    have ht : s.heap.IsTuple a its.toArray := p
    have hae : a ≠ e := by
      rintro rfl
      obtain ⟨o, ho, hc1, _⟩ := ht
      rw [he] at ho
      cases ho
      exact absurd (show Value.type "enumerate" = Value.type "tuple" from hc1) (by decide)
    have hai : a ≠ it := by
      rintro rfl
      obtain ⟨o, ho, hc1, _⟩ := ht
      obtain ⟨o2, ho2, hc2, _⟩ := hit
      rw [ho2] at ho
      cases ho
      rw [hc2] at hc1
      exact absurd hc1 (by decide)
    have D := Draws.tuple (prog := X.prog) (w := X.w) (A := X.A.in1) (I.ok.hd hc) it a hai its.toArray
    refine wpAny_pyNext_enum_itemD D he ⟨hit, ht⟩ (i := i) (by simpa using (List.getElem?_eq_some_iff.mp hu).1) hne (by simp [hne, Ne.symm hae]) fun y h' tk hy ho hst' hT hsz hk => ?_
    have ey : y = u := by
      have : its.toArray[i]? = some y := hy
      rw [List.getElem?_toArray, hu] at this
      exact (Option.some.inj this).symm
    subst ey
    refine ⟨_, rfl, wpAny_letOwnedTupleGo_enum (s := { s with heap := h', toks := tk + 1 }) ho fun h'' he' sb => ?_⟩
    have hT2 : h''.get? s.heap.objs.size = some { cls := .type "tuple", data := .seq #[.int i tk, y] } := (sb.2 _ (Nat.ne_of_gt hel)).trans hT
    have new : ObjOk X.prog X.w (upd H s.heap.objs.size (.tup [.int (i : Nat), x])) h'' s.heap.objs.size (.tup [.int (i : Nat), x]) :=
      ⟨by show 2 ≤ sizeLine; decide, [.int i tk, y], .cons ⟨_, rfl⟩ (.cons ru .nil), ⟨_, hT2, rfl, _, rfl⟩⟩
    have I1 : Inv X pins σ (upd H s.heap.objs.size (.tup [.int (i : Nat), x])) { s with heap := h'', toks := tk + 1 } :=
      I.turnedNew (ch := [e, it]) (fun b ob hb q => (sb.2 b (fun z => hb (by simp [z]))).trans (hk b ob (fun z => hb (by simp [z])) (fun z => hb (by simp [z])) q)) hf (Nat.le_refl _) new
    refine ⟨.ref s.heap.objs.size, _, I1, rfl, ⟨_, x, rfl, I.hok.fresh (Nat.le_refl _), rfl, fun ys hy => by rw [I.tuple_inj hy hq]; exact hx⟩, ⟨⟨y, ?_⟩, hst'.1.at fun o q => (sb.2 it (Ne.symm hne)).trans q, hne⟩, fun b hb => ?_⟩
    · have e1 : ((i + 1 : Nat) : Int) = (i : Int) + 1 := by omega
      rw [e1]; exact he'
    · have hb' : b < s.heap.objs.size := by
        have e' : b = e ∨ b = it := by simpa using hb
        rcases e' with z | z
        · rw [z]; exact hel
        · rw [z]; exact hil
      rw [upd_ne (Nat.ne_of_lt hb')]
      exact (hf b hb).1
  done := by
    intro X hP hw hK hc i pins s σ H E I hf st hg
    subst hP hw hK
    obtain ⟨⟨old, he⟩, hit, hne⟩ := st
    obtain ⟨xs, hq, hx⟩ := hg
    obtain ⟨its, rv, p, hz⟩ := I.tuple hq
    obtain ⟨f0, f1, f2, f3, f4, f5⟩ := hf it (by simp)
    have hl := rv.length
    have ht : s.heap.IsTuple a its.toArray := p
    have hai : a ≠ it := by
      rintro rfl
      obtain ⟨o, ho, hc1, _⟩ := ht
      obtain ⟨o2, ho2, hc2, _⟩ := hit
      rw [ho2] at ho
      cases ho
      rw [hc2] at hc1
      exact absurd hc1 (by decide)
    have D : Draws X.prog X.w X.A.in1 it [it, a] i (fun _ _ => True) (fun j h => j = i ∧ h.IsTupleIter it a i ∧ h.IsTuple a its.toArray) :=
      { live := fun _ _ st => let ⟨o, ho, _⟩ := st.2.1; ⟨o, ho⟩
        frame := fun _ _ _ st hk => ⟨st.1, st.2.1.at fun o e => hk it (by simp) o e, st.2.2.at fun o e => hk a (by simp) o e⟩
        item := fun j s Q E hj st hQ => absurd st.1 (Nat.ne_of_lt hj)
        done := fun s Q E st hE => wpAny_nextOf_tuple_end (I.ok.hd hc) st.2.1 st.2.2 (by simp; omega) hE }
    exact wpAny_pyNext_enum_endD D he ⟨rfl, hit, ht⟩ fun h' eb => ⟨rfl, I.turned (t' := s.toks) (fun b o hb q => eb b o hb q) f0 f1 f3 f4 f5⟩
  self := fun A i s Q E st h => let ⟨⟨_, he⟩, _⟩ := st; wpAny_pyIter_enum he h
/-- enumerate(a list or a tuple) -/
def iEnum2 (K : PySem.W.Frag) (ta : TA) : TI := fun σ H R => ta σ H fun vs H1 => ∃ a, vs = [.ref a] ∧ ((∃ xs, SqL K H1 a xs ∧ R (Ite K a) H1) ∨ ∃ xs, SqT K H1 a xs ∧ R (IteT K a) H1)
theorem pi_enum2 {X : Cx} {e : Expr} {ta : TA} {p pos tpos : Pos} {elts : List Expr} {kk : Nat} (hg : Gl X "enumerate") (hm : X.mg "enumerate" = none) (ha : PA X [e] ta) (hs : starEach [e] X.env = [(false, eval e X.env)] := by rfl) :
    PI X (.Tuple elts kk tpos) (.Call (.Name "enumerate" p) [e] [] pos) (iEnum2 X.K ta) := by
  refine ⟨fun pins s σ H R I h => ?_⟩
  refine Call_ (ld_blt I hg hm boot_enumerate (PyProof.Rows.callWith_type1 (thn (ha.run pos pins s σ H _ I h) fun us s1 ⟨vs, H1, I1, r1, q1⟩ => ?_) hs rfl))
  obtain ⟨a, ex, q⟩ := q1
  subst ex
  cases r1 with
  | cons r rr =>
    cases rr
    cases r
    have fp : ∀ b ∈ [s1.heap.objs.size + 1, s1.heap.objs.size], s1.heap.objs.size ≤ b := fun b hb => by
      have e' : b = s1.heap.objs.size + 1 ∨ b = s1.heap.objs.size := by simpa using hb
      rcases e' with z | z
      · rw [z]; exact Nat.le_add_right _ _
      · rw [z]; exact Nat.le_refl _
    rcases q with ⟨xs, hq, q⟩ | ⟨xs, hq, q⟩
    · obtain ⟨its, rv, p', hz⟩ := I1.list hq
      refine call_enumerate_list p'.isList fun h' he hit hsz hk => wpAny_pyIter_enum he ?_
      have I2 : Inv X pins σ H1 { s1 with heap := h' } := I1.kept (t' := s1.toks) hk
      refine ⟨s1.heap.objs.size + 1, [s1.heap.objs.size + 1, s1.heap.objs.size], _, _, H1, rfl, I2, turn_enum a (s1.heap.objs.size + 1) s1.heap.objs.size, ⟨⟨.none, he⟩, hit, Nat.succ_ne_self _⟩, fun b hb => ?_, q⟩
      have hle := fp b hb
      exact I1.fpOk hle (I1.hok.fresh hle)
    · obtain ⟨its, rv, p', hz⟩ := I1.tuple hq
      have ht : s1.heap.IsTuple a its.toArray := p'
      refine vl_enum_begins (begins_tuple a its.toArray) ht fun h' he hit hsz hk => wpAny_pyIter_enum he ?_
      have I2 : Inv X pins σ H1 { s1 with heap := h' } := I1.kept (t' := s1.toks) hk
      refine ⟨s1.heap.objs.size + 1, [s1.heap.objs.size + 1, s1.heap.objs.size], _, _, H1, rfl, I2, turn_enumT a (s1.heap.objs.size + 1) s1.heap.objs.size, ⟨⟨.none, he⟩, ⟨_, hit, rfl, rfl⟩, Nat.succ_ne_self _⟩, fun b hb => ?_, q⟩
      have hle := fp b hb
      exact I1.fpOk hle (I1.hok.fresh hle)
/-- its lift: a list in the heap, a row that is never written, a tuple -/
def liEnum2 (l : LTE) : LTI := fun s h E L => l s h E fun x h1 => match x with
  | .tup xs => L (itEnS xs) h1
  | .rl xs => L (itEnS xs) h1
  | .ref a => (match h1 a with
    | some (.lst _) => L (itEnL a) h1
    | _ => False)
  | _ => False
theorem rit_enumT {K : PySem.W.Frag} {H0 : Hp} {a : Addr} {xs : List LV} {vs : List V} (ht : SqT K H0 a vs) (hr : RVs K H0 xs vs) : RIt K H0 (IteT K a) (itEnS xs) := fun i H h t r => by
  have hq := t.t a vs ht
  have hr2 := hr.mono t
  unfold itEnS
  cases e : xs[i]? with
  | none =>
    refine ⟨vs, hq, ?_⟩
    rw [← hr2.length]
    exact List.getElem?_eq_none_iff.mp e
  | some x =>
    obtain ⟨v, hv, rv⟩ := hr2.get e
    refine ⟨⟨vs, v, hq, hv⟩, fun u H' y => ?_⟩
    obtain ⟨T, w, rfl, hn, rfl, hw⟩ := y
    have e2 := hw vs hq
    rw [hv] at e2
    cases e2
    exact ⟨.new hn, r.new hn, pair_new hn (.int _) rv⟩
section
variable {X : Cx} {W : WX} {e : Expr} {le : LTE} {elts : List Expr} {kk : Nat} {p pos tpos : Pos}
theorem li_enum2 (hm : X.mg "enumerate" = none) (ha : LE X W e le) (hg : Gl X "enumerate" := by rfl) (hs : starEach [e] X.env = [(false, eval e X.env)] := by rfl) :
    LI X W (.Tuple elts kk tpos) (.Call (.Name "enumerate" p) [e] [] pos) (liEnum2 le) := piW (pi_enum2 hg hm (pa_cons ha pa_nil hs) hs) fun σ H R ⟨s, h, E, L, z, hl, out⟩ =>
  ⟨s, h, E, _, z, hl, fun v H1 x h1 t1 r1 rx q1 => by
    cases rx with
    | tup ht hr => exact ⟨_, rfl, .inr ⟨_, ht, out _ H1 _ h1 t1 r1 (rit_enumT ht hr) q1⟩⟩
    | rl ht hr => exact ⟨_, rfl, .inl ⟨_, ht.sq, out _ H1 _ h1 t1 r1 (rit_enum ht hr) q1⟩⟩
    | ref a =>
      have q2 : (match h1 a with
        | some (.lst _) => L (itEnL a) h1
        | _ => False) := q1
      split at q2
      · rename_i xs ea
        obtain ⟨vs, e1, hr⟩ := r1 a _ ea
        exact ⟨a, rfl, .inl ⟨vs, .of e1, out _ H1 _ h1 t1 r1 rit_enumL q2⟩⟩
      · exact q2.elim
    | _ => exact q1.elim⟩
end
/-! head rules -/
section
variable {nx bk ct : LS → LH → Prop} {rt : LK} {ex : SX} {s : LS} {h : LH} {E : LX} {le : LTE} {KI : LIt → LH → Prop} {xs : List LV} {a : Addr} {x : LV} {g : LTG} {lbody : LTS} {Ps Qs : List HP}
def gEn2 : LV → LH → (LIt → LH → Prop) → Prop := fun x h1 L => match x with
  | .tup xs => L (itEnS xs) h1
  | .rl xs => L (itEnS xs) h1
  | .ref a => (match h1 a with
    | some (.lst _) => L (itEnL a) h1
    | _ => False)
  | _ => False
theorem s_enum (q : le s h E fun x h1 => gEn2 x h1 KI) : liEnum2 le s h E KI := q
instance st_s_enum  : Stp (liEnum2 le s h E KI) (le s h E fun x h1 => gEn2 x h1 KI) := ⟨s_enum⟩
theorem s_enT (q : KI (itEnS xs) h) : gEn2 (.tup xs) h KI := q
instance st_s_enT  : Stp (gEn2 (.tup xs) h KI) (KI (itEnS xs) h) := ⟨s_enT⟩
theorem s_enR (q : KI (itEnS xs) h) : gEn2 (.rl xs) h KI := q
instance st_s_enR  : Stp (gEn2 (.rl xs) h KI) (KI (itEnS xs) h) := ⟨s_enR⟩
theorem s_enL (e : h a = some (.lst xs)) (q : KI (itEnL a) h) : gEn2 (.ref a) h KI := by
  unfold gEn2
  dsimp only
  rw [e]; exact q
theorem s_forES (P : Nat → LS → LH → Prop) (p0 : P 0 s h) (stop : ∀ s' h', P xs.length s' h' → nx s' h')
    (step : ∀ (i : Nat) y s' h', xs[i]? = some y → P i s' h' → g (.tup [.int i, y]) s' h' ex fun s2 h2 => lbody ⟨P (i + 1), rt, ex, nx, P (i + 1)⟩ s2 h2) : kFor nx rt ex g lbody s (itEnS xs) h := by
  refine ⟨xs.length, fun i s h => i ≤ xs.length ∧ P i s h, ⟨Nat.zero_le _, p0⟩, fun i s' h' hp => ?_⟩
  unfold itEnS
  cases eq : xs[i]? with
  | some x =>
    have hi : i < xs.length := (List.getElem?_eq_some_iff.mp eq).1
    refine ⟨hi, ?_⟩
    have q := step i x s' h' eq hp.2
    have e : (fun s h => i + 1 ≤ xs.length ∧ P (i + 1) s h) = P (i + 1) := by
      funext s h
      exact propext ⟨fun z => z.2, fun z => ⟨hi, z⟩⟩
    rw [← e] at q
    exact q
  | none =>
    have e : i = xs.length := by
      have := List.getElem?_eq_none_iff.mp eq
      have := hp.1
      omega
    subst e
    exact stop s' h' hp.2
/-- enumerate of a row by value -/
theorem s_forEQ (e0 : seqOf h x = some xs) (P : Nat → LS → LH → Prop) (keep : ∀ i s' h', P i s' h' → seqOf h' x = some xs) (p0 : P 0 s h) (stop : ∀ s' h', P xs.length s' h' → nx s' h')
    (step : ∀ (i : Nat) y s' h', xs[i]? = some y → P i s' h' → g (.tup [.int i, y]) s' h' ex fun s2 h2 => lbody ⟨P (i + 1), rt, ex, nx, P (i + 1)⟩ s2 h2) : gEn2 x h fun it h1 => kFor nx rt ex g lbody s it h1 := by
  rcases seqOf_split e0 with rfl | rfl | ⟨a, rfl, e⟩
  · exact s_forES P p0 stop step
  · exact s_forES P p0 stop step
  · refine s_enL e ?_
    exact s_forE e P (fun i s' h' p => seqOf_ref (keep i s' h' p)) p0 stop step
end
/-! reversed -/
section
variable {nx bk ct : LS → LH → Prop} {rt : LK} {ex : SX} {s : LS} {h : LH} {E : LX} {le : LTE} {KI : LIt → LH → Prop} {xs : List LV} {a : Addr} {x : LV} {g : LTG} {lbody : LTS} {Ps Qs : List HP}
def gRv : LV → LH → (LIt → LH → Prop) → Prop := fun x h1 L => match x with
  | .tup xs => L (itRevS xs) h1
  | .rl xs => L (itRevS xs) h1
  | .ref a => (match h1 a with
    | some (.lst xs) => L (itRevL a xs.length) h1
    | _ => False)
  | _ => False
theorem s_rev (q : le s h E fun x h1 => gRv x h1 KI) : liRev le s h E KI := q
instance st_s_rev  : Stp (liRev le s h E KI) (le s h E fun x h1 => gRv x h1 KI) := ⟨s_rev⟩
theorem s_revR (q : le s h E fun x h1 => match x with
  | .int n => 0 ≤ n ∧ n ≤ 1000000 ∧ KI (itC (n - 1) (-1) n.toNat) h1
  | _ => False) : liRevRng1 le s h E KI := q
instance st_s_revR  : Stp (liRevRng1 le s h E KI) (le s h E fun x h1 => match x with
  | .int n => 0 ≤ n ∧ n ≤ 1000000 ∧ KI (itC (n - 1) (-1) n.toNat) h1
  | _ => False) := ⟨s_revR⟩
theorem for_gen {it : LIt} {n : Nat} {item : Nat → LV} (P : Nat → LS → LH → Prop) (hit : ∀ i s' h', i ≤ n → P i s' h' → it i h' = if i < n then some (some (item i)) else some none) (p0 : P 0 s h) (stop : ∀ s' h', P n s' h' → nx s' h')
    (step : ∀ (i : Nat) s' h', i < n → P i s' h' → g (item i) s' h' ex fun s2 h2 => lbody ⟨P (i + 1), rt, ex, nx, P (i + 1)⟩ s2 h2) : kFor nx rt ex g lbody s it h := by
  refine ⟨n, fun i s h => i ≤ n ∧ P i s h, ⟨Nat.zero_le _, p0⟩, fun i s' h' hp => ?_⟩
  rw [hit i s' h' hp.1 hp.2]
  by_cases hi : i < n
  · rw [if_pos hi]
    refine ⟨hi, ?_⟩
    have q := step i s' h' hi hp.2
    have e : (fun s h => i + 1 ≤ n ∧ P (i + 1) s h) = P (i + 1) := by
      funext s h
      exact propext ⟨fun z => z.2, fun z => ⟨hi, z⟩⟩
    rw [← e] at q
    exact q
  · rw [if_neg hi]
    have e : i = n := by have := hp.1; omega
    subst e
    exact stop s' h' hp.2
theorem for_rngC {lo c : Int} {n : Nat} (P : Nat → LS → LH → Prop) (p0 : P 0 s h) (stop : ∀ s' h', P n s' h' → nx s' h')
    (step : ∀ (i : Nat) s' h', i < n → P i s' h' → g (.int (lo + (i : Nat) * c)) s' h' ex fun s2 h2 => lbody ⟨P (i + 1), rt, ex, nx, P (i + 1)⟩ s2 h2) : kFor nx rt ex g lbody s (itC lo c n) h :=
  for_gen (item := fun i => .int (lo + (i : Nat) * c)) P (fun i s' h' _ _ => rfl) p0 stop step
theorem itRevS_get {i : Nat} : itRevS xs i h = if i < xs.length then some (some (xs.reverse.getD i .non)) else some none := by
  unfold itRevS
  by_cases hi : i < xs.length
  · rw [if_pos hi, List.getElem?_eq_getElem (by rw [List.length_reverse]; exact hi), List.getD_eq_getElem?_getD, List.getElem?_eq_getElem (by rw [List.length_reverse]; exact hi)]
    rfl
  · rw [if_neg hi, List.getElem?_eq_none (by rw [List.length_reverse]; omega)]
theorem s_forRQ (e0 : seqOf h x = some xs) (P : Nat → LS → LH → Prop) (keep : ∀ i s' h', P i s' h' → seqOf h' x = some xs) (p0 : P 0 s h) (stop : ∀ s' h', P xs.length s' h' → nx s' h')
    (step : ∀ (i : Nat) y s' h', xs.reverse[i]? = some y → P i s' h' → g y s' h' ex fun s2 h2 => lbody ⟨P (i + 1), rt, ex, nx, P (i + 1)⟩ s2 h2) : gRv x h fun it h1 => kFor nx rt ex g lbody s it h1 := by
  have st : ∀ (i : Nat) s' h', i < xs.length → P i s' h' → g (xs.reverse.getD i .non) s' h' ex fun s2 h2 => lbody ⟨P (i + 1), rt, ex, nx, P (i + 1)⟩ s2 h2 := fun i s' h' hi hp =>
    step i _ s' h' (by rw [List.getD_eq_getElem?_getD, List.getElem?_eq_getElem (by rw [List.length_reverse]; exact hi)]; rfl) hp
  rcases seqOf_split e0 with rfl | rfl | ⟨a, rfl, e⟩
  · exact for_gen P (fun i s' h' _ _ => itRevS_get) p0 stop st
  · exact for_gen P (fun i s' h' _ _ => itRevS_get) p0 stop st
  · show (match h a with
      | some (.lst xs) => _
      | _ => False)
    rw [e]
    refine for_gen P (fun i s' h' hi hp => ?_) p0 stop st
    have e2 := seqOf_ref (keep i s' h' hp)
    have e3 := itRevS_get (xs := xs) (i := i) (h := h')
    unfold itRevL
    rw [e2]
    unfold itRevS at e3
    dsimp only
    rw [if_pos rfl]
    exact e3
theorem rev_at {α : Type} {xs : List α} {i : Nat} {y : α} (e : xs.reverse[i]? = some y) : i < xs.length ∧ xs[xs.length - 1 - i]? = some y := by
  have hi : i < xs.length := by
    have := (List.getElem?_eq_some_iff.mp e).1
    rw [List.length_reverse] at this
    exact this
  rw [List.getElem?_reverse hi] at e
  exact ⟨hi, e⟩
theorem rev_take {α : Type} {xs : List α} {i : Nat} {y : α} (e : xs.reverse[i]? = some y) : xs.reverse.take (i + 1) = xs.reverse.take i ++ [y] := by rw [List.take_succ, e]; rfl
theorem range_rev {n i : Nat} (h : i < n) : (List.range n).reverse[i]? = some (n - 1 - i) := by
  rw [List.getElem?_reverse (by rw [List.length_range]; exact h), List.length_range]
  exact List.getElem?_range (by omega)
end
/-! coding back keeps digits -/
theorem stepD_digs {back : List Int} {turn : Int} {m : List Int} {p : Nat} (d : Digs m) : Digs (stepD back turn m p) := fun x hx => by
  rcases List.mem_or_eq_of_mem_set hx with e | e
  · exact d x e
  · rw [e]
    exact ⟨Int.emod_nonneg _ (by omega), Int.emod_lt_of_pos _ (by omega)⟩
theorem foldD_digs {back : List Int} {turn : Int} : ∀ (ps : List Nat) (m : List Int), Digs m → Digs (ps.foldl (stepD back turn) m)
  | [], _, d => d
  | p :: ps, m, d => foldD_digs ps _ (stepD_digs d)
theorem foldD_length {back : List Int} {turn : Int} : ∀ (ps : List Nat) (m : List Int), (ps.foldl (stepD back turn) m).length = m.length
  | [], m => rfl
  | p :: ps, m => by rw [List.foldl_cons, foldD_length ps]; unfold stepD; rw [List.length_set]
theorem roundsD_digs {back : List Int} : ∀ (ks : List Int) (m : List Int), Digs m → Digs (ks.foldl (roundD back) m)
  | [], _, d => d
  | t :: ks, m, d => roundsD_digs ks _ (foldD_digs _ _ d)
theorem roundsD_length {back : List Int} : ∀ (ks : List Int) (m : List Int), (ks.foldl (roundD back) m).length = m.length
  | [], m => rfl
  | t :: ks, m => by rw [List.foldl_cons, roundsD_length ks, roundD_length]
theorem backF_length {tab : List Int} : (backF tab).length = 16 := by
  unfold backF
  generalize List.range tab.length = ps
  have : ∀ (ps : List Nat) (b : List Int), (ps.foldl (backS tab) b).length = b.length := fun ps => by
    induction ps with
    | nil => exact fun b => rfl
    | cons p ps ih => intro b; rw [List.foldl_cons, ih]; unfold backS; rw [List.length_set]
  rw [this]
  rfl
/-! sum of a list or a tuple -/
section
open PySem.W PySem.Calls PyProof.V
theorem sumT_raw {prog : Program} {w : World} {A : Around} {E : Value → Shared → Prop} {s : Shared} {Q : Value → Shared → Prop} {l : Addr} {its : List Value} {ns : List Int} (hh : A.handled = none) (hl : s.heap.IsTuple l its.toArray) (hi : IntsAre its ns)
    (h : ∀ h' tk t', (∀ b o, s.heap.get? b = some o → h'.get? b = some o) → Q (.int ns.sum t') { s with heap := h', toks := tk }) : wpAny (model prog w) A (call (.builtin "sum") [.ref l]) Q E s := by
  obtain ⟨xs, e⟩ := hi.allInts.items
  have hn : numsOf (intItems xs).toList = ns := by rw [← e]; exact hi.numsOf
  rw [nums_intItems] at hn
  rw [e] at hl
  refine ktm_sumG hh hl fun h' tk t' hk => ?_
  have := h h' tk t' hk
  rw [preSum_eq, List.take_of_length_le (by simp), hn]; exact this
end
def rSum2 (K : PySem.W.Frag) : List V → Hp → VK → Prop := fun vs H Q => ∃ (a : Addr) (ns : List Int), vs = [V.ref a] ∧ (SqL K H a (ns.map V.int) ∨ SqT K H a (ns.map V.int)) ∧ Q (.int ns.sum) H
theorem cr_sum2 {X : Cx} (hc : X.calm = true) : CallR X (.builtin "sum") (rSum2 X.K) := by
  intro pins s σ H vs us Q I r h
  obtain ⟨a, ns, rfl, hs, q⟩ := h
  rw [Vals.ref1 r]
  rcases hs with hs | hs
  · obtain ⟨its, rv, hl, _⟩ := I.list hs
    exact sum_raw (I.ok.hd hc) hl.isList rv.ints fun h' tk t' hk => ⟨.int _, H, I.kept hk, ⟨_, rfl⟩, q⟩
  · obtain ⟨its, rv, hl, _⟩ := I.tuple hs
    exact sumT_raw (I.ok.hd hc) hl rv.ints fun h' tk t' hk => ⟨.int _, H, I.kept hk, ⟨_, rfl⟩, q⟩
def gSum2 : LCR := fun xs h L => match xs with
  | [x] => (match seqOf h x with
    | some ys => (match intsOf ys with
      | some ns => L (.int ns.sum) h
      | none => False)
    | none => False)
  | _ => False
theorem src_sum2 {K : PySem.W.Frag} : SRC K (rSum2 K) gSum2 := fun H h xs vs L Q rh rx g o => by
  unfold gSum2 at g
  split at g
  · cases rx with
    | cons r1 r2 =>
      cases r2
      split at g
      · rename_i ys e
        split at g
        · rename_i ns en
          obtain ⟨p, us, rfl, hs, hr⟩ := seqOf_ok rh r1 e
          have e2 := intsOf_ok hr en
          subst e2
          exact ⟨p, ns, rfl, hs, o _ H _ h (.refl H) rh (.int _) g⟩
        · exact g.elim
      · exact g.elim
  · exact g.elim
theorem s_sum {h : LH} {L : LK} {x : LV} {ns : List Int} (e : seqOf h x = some (ns.map .int)) (q : L (.int ns.sum) h) : gSum2 [x] h L := by
  unfold gSum2
  dsimp only
  rw [e]
  dsimp only
  rw [intsOf_map]
  exact q
theorem list5 {m : List Int} (h : m.length = 5) : m = [gI m 0, gI m 1, gI m 2, gI m 3, gI m 4] := by
  match m, h with
  | [a, b, c, d, e], _ => rfl
theorem wv_none : wv none = .non := rfl
theorem wv_some {p : Int × Int} : wv (some p) = .tup [.int p.1, .int p.2] := rfl
/-! same values, by a law's own look -/
theorem Pl.mono : ∀ {n : Nat} {x : LV}, Pl n x → Pl (n + 1) x := by
  intro n x p
  induction p with
  | non => exact .non
  | int => exact .int
  | str => exact .str
  | tup hz hx ih => exact .tup hz ih
theorem Pl.wv {n : Nat} {w : Option (Int × Int)} : Pl (n + 2) (VL.wv w) := by
  cases w with
  | none => exact .non
  | some p => exact .two .int .int
theorem Pl.held {n : Nat} {w : Str} : Pl (n + 2) (heldA w) := .two .str .str
theorem Pl.opened {n : Nat} {w : Str} {i : Int} : Pl (n + 2) (openA w i) := .three .str .str .int
theorem Pl.count {n : Nat} {D : Dm} {e : En} {z : Str} {age count deed : Int} : Pl (n + 2) (countF D e z age count deed).1 := by
  unfold countF
  repeat' split
  all_goals first | exact Pl.held | exact Pl.opened
theorem Pl.due {n : Nat} {D : Dm} {z : Str} {age count deed : Int} : Pl (n + 2) (dueF D z age count deed).1 := by
  unfold dueF
  split
  · exact .held
  · split
    · exact .count
    · exact .held
/-! what is known, by rising names -/
def knownF (D : Dm) : List LV := (srtS (names D.es)).map fun z => match eget D.es z with
  | some e => .tup [.str z, .int e.age, .int e.last, wv e.w]
  | none => .non
theorem Pq.two {n : Nat} {x y : LV} (a : Pq n x) (b : Pq n y) : Pq (n + 1) (.tup [x, y]) := .tup fun w hw => by
  simp only [List.mem_cons, List.not_mem_nil, or_false] at hw
  rcases hw with rfl | rfl <;> assumption
theorem Pq.three {n : Nat} {x y z : LV} (a : Pq n x) (b : Pq n y) (c : Pq n z) : Pq (n + 1) (.tup [x, y, z]) := .tup fun w hw => by
  simp only [List.mem_cons, List.not_mem_nil, or_false] at hw
  rcases hw with rfl | rfl | rfl <;> assumption
theorem Pq.four {n : Nat} {x y z u : LV} (a : Pq n x) (b : Pq n y) (c : Pq n z) (d : Pq n u) : Pq (n + 1) (.tup [x, y, z, u]) := .tup fun w hw => by
  simp only [List.mem_cons, List.not_mem_nil, or_false] at hw
  rcases hw with rfl | rfl | rfl | rfl <;> assumption
theorem Pq.ints {n : Nat} {ns : List Int} : Pq (n + 2) (.tup (ns.map .int)) := .tup fun x hx => by
  obtain ⟨i, _, rfl⟩ := List.mem_map.mp hx
  exact .int
section
variable {x y z : LV} {h : LH} {L : LK}
theorem i_ne_pl {x : LV} (p : Pq 8 x) (q : L (.bl false) h) : gEqW (!·) x x h L := i_eq_pl p q
theorem i_eq_plT {x : LV} (p : Pq 8 x) (q : L (.bl true) h) : gEqW id x x h L := i_eq_pl p q
theorem s_sl32 (q : L (.tup [x, y]) h) : gSl (.tup [x, y, z]) none (some 2) h L := q
instance st_s_sl32  : Stp (gSl (.tup [x, y, z]) none (some 2) h L) (L (.tup [x, y]) h) := ⟨s_sl32⟩
end
theorem names_nm {D : Dm} (k : D.ok) {z : Str} (h : z ∈ names D.es) : Nm z ∧ ∃ e, eget D.es z = some e := by
  obtain ⟨p, hp, rfl⟩ := List.mem_map.mp h
  refine ⟨k.nm p hp, ?_⟩
  cases q : eget D.es p.1 with
  | some e => exact ⟨e, rfl⟩
  | none => exact absurd rfl (eget_none.mp q p hp)
theorem known_pq {D : Dm} (k : D.ok) : Pq 8 (.tup (knownF D)) := .tup fun x hx => by
  obtain ⟨z, hz, rfl⟩ := List.mem_map.mp hx
  obtain ⟨hn, e, he⟩ := names_nm k ((srtS_perm _).mem_iff.mp hz)
  rw [he]
  exact .four (.str hn.low.ok) .int .int .wv
theorem pick4 {a b c d : Int} {P : Int → Prop} (h : P a ∧ P b ∧ P c ∧ P d) : ∀ x ∈ [LV.int a, .int b, .int c, .int d], ∃ z : Int, x = .int z ∧ P z := by
  intro x hx
  simp only [List.mem_cons, List.not_mem_nil, or_false] at hx
  rcases hx with rfl | rfl | rfl | rfl
  · exact ⟨_, rfl, h.1⟩
  · exact ⟨_, rfl, h.2.1⟩
  · exact ⟨_, rfl, h.2.2.1⟩
  · exact ⟨_, rfl, h.2.2.2⟩
theorem take_notin {α : Type} {zs : List α} (nd : zs.Nodup) {i : Nat} {z : α} (h : zs[i]? = some z) : z ∉ zs.take i := fun hm => by
  obtain ⟨hi, rfl⟩ := List.getElem?_eq_some_iff.mp h
  have nd2 := nd
  rw [← List.take_append_drop i zs, List.nodup_append] at nd2
  exact nd2.2.2 _ hm _ (by rw [← List.getElem_cons_drop hi]; exact List.mem_cons_self) rfl
theorem take_snoc {α : Type} {zs : List α} {i : Nat} {z : α} (h : zs[i]? = some z) : zs.take (i + 1) = zs.take i ++ [z] := by rw [List.take_succ, h]; rfl
/-! a, b, c = x, y, z -/
def lPar3 (i j l : Nat) (la : LTA) : LTS := fun D s h => la s h (fun c fs h' => D.ex c fs s h') fun xs h1 => match xs with
  | [x, y, z] => D.nx (((s.set i (some x)).set j (some y)).set l (some z)) h1
  | _ => False
theorem ls_par3 {X : Cx} {W : WX} {pos : Pos} {x y z : Str} {a b c : Expr} {lr : LTA} {px py pz pt : Pos} {kt k2 pt2} (i j l : Nat) (hc : X.calm = true) (hN : X.N.Nodup) (ha : LA X W [a, b, c] lr) (hi : X.N[i]? = some x := by rfl) (hj : X.N[j]? = some y := by rfl) (hl : X.N[l]? = some z := by rfl) (hij : i ≠ j := by decide) (hil : i ≠ l := by decide) (hjl : j ≠ l := by decide)
    (hx : X.env.scope.names.lookup x = some .local := by rfl) (hy : X.env.scope.names.lookup y = some .local := by rfl) (hz : X.env.scope.names.lookup z = some .local := by rfl)
    (hw : swappedStores [.Tuple [.Name x px, .Name y py, .Name z pz] kt pt] (.Tuple [a, b, c] k2 pt2) X.env = pure (some [x, y, z]) := by rfl)
    (hs : swapsWithSole [.Tuple [.Name x px, .Name y py, .Name z pz] kt pt] (.Tuple [a, b, c] k2 pt2) pos.line X.env = pure false := by rfl) :
    LSt X W (.Assign [.Tuple [.Name x px, .Name y py, .Name z pz] kt pt] (.Tuple [a, b, c] k2 pt2) pos) (lPar3 i j l lr) := psW (ps_par3 hc hN hi hj hl hij hil hjl hx hy hz ha hw hs) fun D σ H ⟨s, h, LD, rs, rh, hl, out⟩ =>
  ⟨s, h, _, _, sit_of rs rh out.ex, hl, fun vs H1 xs h1 t1 r1 rxs q1 => by
    split at q1
    · cases rxs with
      | cons r t =>
        cases t with
        | cons r' t =>
          cases t with
          | cons r'' t =>
            cases t
            exact ⟨_, _, _, rfl, out.nx _ H1 _ h1 t1 ((((rs.mono t1).set r i).set r' j).set r'' l) r1 q1⟩
    · exact q1.elim⟩
section
variable {nx bk ct : LS → LH → Prop} {rt : LK} {ex : SX} {s s2 : LS} {h : LH} {lr : LTA} {x y z : LV}
def gPar3 (i j l : Nat) (s : LS) (nx : LS → LH → Prop) : List LV → LH → Prop := fun xs h1 => match xs with
  | [x, y, z] => nx (((s.set i (some x)).set j (some y)).set l (some z)) h1
  | _ => False
theorem i_par3 {i j l : Nat} (q : lr s h (fun c fs h' => ex c fs s h') fun xs h1 => gPar3 i j l s nx xs h1) : lPar3 i j l lr ⟨nx, rt, ex, bk, ct⟩ s h := q
instance st_i_par3 {i j l : Nat} : Stp (lPar3 i j l lr ⟨nx, rt, ex, bk, ct⟩ s h) (lr s h (fun c fs h' => ex c fs s h') fun xs h1 => gPar3 i j l s nx xs h1) := ⟨i_par3⟩
theorem i_parG3 {i j l : Nat} (e : ((s.set i (some x)).set j (some y)).set l (some z) = s2) (q : nx s2 h) : gPar3 i j l s nx [x, y, z] h := by subst e; exact q
end
theorem md_near {D : Dm} {a : Ma} {v : Int} : dput (D.dd a) (.inr "near") (.int v) = ({ D with near := v } : Dm).dd a := rfl
theorem md_far {D : Dm} {a : Ma} {v : Int} : dput (D.dd a) (.inr "far") (.int v) = ({ D with far := v } : Dm).dd a := rfl
theorem md_most {D : Dm} {a : Ma} {v : Int} : dput (D.dd a) (.inr "most") (.int v) = ({ D with most := v } : Dm).dd a := rfl
theorem md_closed {D : Dm} {a : Ma} {v : Int} : dput (D.dd a) (.inr "closed") (.int v) = ({ D with closed := v } : Dm).dd a := rfl
/-- a press that may be made -/
def RowOk (m : Nat) (x : LV) : Prop := ∃ (z : Str) (age count : Int), x = .tup [.str z, .int age, .int count] ∧ Nm z ∧ (0 ≤ age ∧ age < m) ∧ (0 ≤ count ∧ count < 4096)
end VL

set_option Elab.async false
set_option linter.all false
set_option maxRecDepth 100000
set_option maxHeartbeats 4000000
namespace VL
open PySem PySem.Spec PyProof.Rows L2
/-! dict(d) -/
def gDictD : LCR := fun xs h L => match xs with
  | [.ref a] => (match h a with
    | some (.dic kvs) => ∀ p, h p = none → L (.ref p) (up h p (.dic kvs))
    | _ => False)
  | _ => False
def rDictD : List V → Hp → VK → Prop := fun xs H Q => ∃ (a : Addr) (kvs : List (Key × V)), xs = [.ref a] ∧ Rd H a (.dK kvs) ∧ ∀ p, H p = none → Q (.ref p) (upd H p (.dK kvs))
theorem src_dictD {K : PySem.W.Frag} : SRC K rDictD gDictD := fun H h xs vs L Q rh rx g o => by
  unfold gDictD at g
  split at g
  · rename_i a
    cases rx with
    | cons r t =>
      cases t
      cases r
      split at g
      · rename_i kvs ea
        obtain ⟨ws, e2, hr⟩ := rh a _ ea
        exact ⟨a, ws, rfl, .inl e2, fun p hp => o _ _ (.ref p) _ (.new hp) (rh.lay hp (.mkD upd_same (hr.mono (.new hp)))) (.ref p) (g p (rh.fresh hp))⟩
      · exact g.elim
  · exact g.elim
theorem s_dictD {a : Addr} {kvs : List (Key × LV)} {h : LH} {L : LK} (e : h a = some (.dic kvs)) (q : cNew (.dic kvs) L h) : gDictD [.ref a] h L := by
  unfold gDictD
  dsimp only
  rw [e]
  exact q
/-! entries -/
theorem find_map {es : Ents} {y z : Str} {e : En} : ((es.map fun p => if p.1 = z then (p.1, e) else p).find? fun p => decide (p.1 = y)) = (es.find? fun p => decide (p.1 = y)).map fun p => if p.1 = z then (p.1, e) else p := by
  induction es with
  | nil => rfl
  | cons p r ih =>
    rw [List.map_cons, List.find?_cons, List.find?_cons]
    have e1 : (if p.1 = z then (p.1, e) else p).1 = p.1 := by split <;> rfl
    rw [e1]
    cases decide (p.1 = y) with
    | true => rfl
    | false => exact ih
theorem eget_eput {es : Ents} {z : Str} {e : En} : eget (eput es z e) z = some e := by
  cases q : eget es z with
  | some e0 =>
    unfold eput
    rw [if_pos (eget_any q)]
    unfold eget at q ⊢
    rw [find_map]
    cases q2 : es.find? fun p => decide (p.1 = z) with
    | none => rw [q2] at q; cases q
    | some p =>
      have h1 := List.find?_some q2
      have e1 : p.1 = z := of_decide_eq_true h1
      show some (if p.1 = z then (p.1, e) else p).2 = _
      rw [if_pos e1]
  | none =>
    rw [eput_new q]
    unfold eget at q ⊢
    rw [List.find?_append, Option.map_eq_none_iff.mp q, Option.none_or, List.find?_cons]
    dsimp only
    rw [decide_eq_true rfl]
    rfl
theorem eget_eput_ne {es : Ents} {y z : Str} {e : En} (n : y ≠ z) : eget (eput es z e) y = eget es y := by
  cases q : eget es z with
  | some e0 =>
    unfold eput
    rw [if_pos (eget_any q)]
    unfold eget
    rw [find_map]
    cases q2 : es.find? fun p => decide (p.1 = y) with
    | none => rfl
    | some p =>
      have h1 := List.find?_some q2
      have e1 : p.1 = y := of_decide_eq_true h1
      show some (if p.1 = z then (p.1, e) else p).2 = _
      rw [if_neg fun q3 => n (e1.symm.trans q3)]
      rfl
  | none =>
    rw [eput_new q]
    unfold eget
    rw [List.find?_append]
    cases q2 : es.find? fun p => decide (p.1 = y) with
    | some p => rfl
    | none =>
      rw [Option.none_or, List.find?_cons]
      dsimp only
      rw [decide_eq_false (fun q3 => n q3.symm)]
      rfl
/-! one button's presses -/
theorem due_some {D : Dm} {z : Str} {age count deed : Int} {e : En} (q : eget D.es z = some e) (ht : D.takes age ∧ ¬ age < e.age) : dueF D z age count deed = ((countF D e z age count deed).1, { D with es := eput D.es z (countF D e z age count deed).2 }) := by
  unfold dueF
  rw [q]
  dsimp only
  rw [if_pos ht]
theorem due_not {D : Dm} {z : Str} {age count deed : Int} {e : En} (q : eget D.es z = some e) (ht : ¬ (D.takes age ∧ ¬ age < e.age)) : dueF D z age count deed = (heldA "age", D) := by
  unfold dueF
  rw [q]
  dsimp only
  rw [if_neg ht]
theorem due_no {D : Dm} {z : Str} {age count deed : Int} (q : eget D.es z = none) : dueF D z age count deed = (heldA "unknown", D) := by
  unfold dueF
  rw [q]
theorem due_old {D : Dm} (k : D.ok) {z : Str} {age count deed : Int} {e : En} (q : eget D.es z = some e) (ht : D.takes age ∧ ¬ age < e.age) (hc : count ≤ e.last) : dueF D z age count deed = (heldA "old", D) := by
  rw [due_some q ht]
  unfold countF
  rw [if_pos hc]
  dsimp only
  rw [eput_same k.nd q]
theorem due_own {D : Dm} {z : Str} {age count deed : Int} {e : En} (q : eget D.es z = some e) (ha : e.age = age) : ∃ e', eget (dueF D z age count deed).2.es z = some e' ∧ e'.age = age := by
  by_cases ht : D.takes age ∧ ¬ age < e.age
  · rw [due_some q ht]
    refine ⟨_, eget_eput, ?_⟩
    unfold countF
    repeat' split
    all_goals first | exact ha | rfl
  · rw [due_not q ht]
    exact ⟨e, q, ha⟩
/-- how many presses -/
def needO (D : Dm) (z : Str) (age c : Int) : Option Int := match eget D.es z with
  | none => none
  | some e => if D.takes age ∧ ¬ age < e.age then (if e.last = 4095 ∨ 4095 < c then none else if c ≤ e.last then some (e.last - c + 2) else if c ≤ e.last + D.near ∨ c ≤ e.last + D.far ∧ e.w = some (age, c - 1) then some 1 else if c < e.last + D.far ∧ c < 4095 then some 2 else none) else none
def optI : Option Int → LV
  | none => .non
  | some n => .int n
theorem need_none {D : Dm} {z : Str} {age c : Int} (q : eget D.es z = none) : needO D z age c = none := by unfold needO; rw [q]
theorem need_not {D : Dm} {z : Str} {age c : Int} {e : En} (q : eget D.es z = some e) (ht : ¬ (D.takes age ∧ ¬ age < e.age)) : needO D z age c = none := by unfold needO; rw [q]; dsimp only; rw [if_neg ht]
theorem need_some {D : Dm} {z : Str} {age c : Int} {e : En} (q : eget D.es z = some e) (ht : D.takes age ∧ ¬ age < e.age) : needO D z age c = (if e.last = 4095 ∨ 4095 < c then none else if c ≤ e.last then some (e.last - c + 2) else if c ≤ e.last + D.near ∨ c ≤ e.last + D.far ∧ e.w = some (age, c - 1) then some 1 else if c < e.last + D.far ∧ c < 4095 then some 2 else none) := by unfold needO; rw [q]; dsimp only; rw [if_pos ht]
theorem need_hi {D : Dm} {z : Str} {age c : Int} (hc : 4095 < c) : needO D z age c = none := by
  cases q : eget D.es z with
  | none => exact need_none q
  | some e =>
    by_cases ht : D.takes age ∧ ¬ age < e.age
    · rw [need_some q ht, if_pos (.inr hc)]
    · exact need_not q ht
theorem need_last {D : Dm} {z : Str} {age c : Int} {e : En} (q : eget D.es z = some e) (hl : e.last = 4095) : needO D z age c = none := by
  by_cases ht : D.takes age ∧ ¬ age < e.age
  · rw [need_some q ht, if_pos (.inl hl)]
  · exact need_not q ht
theorem need_age {D : Dm} {z : Str} {age c : Int} (hc : ¬ D.takes age) : needO D z age c = none := by
  cases q : eget D.es z with
  | none => exact need_none q
  | some e => exact need_not q fun h => hc h.1
theorem need_step {D : Dm} (k : D.ok) {z : Str} {age c deed : Int} (c1 : c ≤ 4095) :
    (needO D z age c = none ∧ (∃ w, (dueF D z age c deed).1 = heldA w) ∧ needO (dueF D z age c deed).2 z age (c + 1) = none)
    ∨ (needO D z age c = some 1 ∧ (dueF D z age c deed).1 = openA z deed ∧ (c < 4095 → needO (dueF D z age c deed).2 z age (c + 1) = some 1))
    ∨ ∃ n, needO D z age c = some n ∧ 2 ≤ n ∧ (∃ w, (dueF D z age c deed).1 = heldA w) ∧ needO (dueF D z age c deed).2 z age (c + 1) = some (n - 1) := by
  have n1 := k.n1
  have f1 := k.f1
  cases q : eget D.es z with
  | none =>
    rw [due_no q]
    exact .inl ⟨need_none q, ⟨_, rfl⟩, need_none q⟩
  | some e =>
    have ev := (k.ev _ (eget_mem q)).2.2
    dsimp only at ev
    by_cases ht : D.takes age ∧ ¬ age < e.age
    · have e3 : ∀ (e' : En) (c' : Int), e'.age ≤ age → needO { D with es := eput D.es z e' } z age c' = (if e'.last = 4095 ∨ 4095 < c' then none else if c' ≤ e'.last then some (e'.last - c' + 2) else if c' ≤ e'.last + D.near ∨ c' ≤ e'.last + D.far ∧ e'.w = some (age, c' - 1) then some 1 else if c' < e'.last + D.far ∧ c' < 4095 then some 2 else none) := fun e' c' h => need_some (D := { D with es := eput D.es z e' }) eget_eput ⟨ht.1, by omega⟩
      have hle : e.age ≤ age := by have := ht.2; omega
      rw [due_some q ht, need_some q ht]
      have cf : ∀ r, countF D e z age c deed = r → ((if e.last = 4095 ∨ 4095 < c then none else if c ≤ e.last then some (e.last - c + 2) else if c ≤ e.last + D.near ∨ c ≤ e.last + D.far ∧ e.w = some (age, c - 1) then some 1 else if c < e.last + D.far ∧ c < 4095 then some 2 else none) = (none : Option Int) ∧ (∃ w, r.1 = heldA w) ∧ needO { D with es := eput D.es z r.2 } z age (c + 1) = none)
        ∨ ((if e.last = 4095 ∨ 4095 < c then none else if c ≤ e.last then some (e.last - c + 2) else if c ≤ e.last + D.near ∨ c ≤ e.last + D.far ∧ e.w = some (age, c - 1) then some 1 else if c < e.last + D.far ∧ c < 4095 then some 2 else none) = some 1 ∧ r.1 = openA z deed ∧ (c < 4095 → needO { D with es := eput D.es z r.2 } z age (c + 1) = some 1))
        ∨ (∃ n : Int, (if e.last = 4095 ∨ 4095 < c then none else if c ≤ e.last then some (e.last - c + 2) else if c ≤ e.last + D.near ∨ c ≤ e.last + D.far ∧ e.w = some (age, c - 1) then some 1 else if c < e.last + D.far ∧ c < 4095 then some 2 else none) = some n ∧ 2 ≤ n ∧ (∃ w, r.1 = heldA w) ∧ needO { D with es := eput D.es z r.2 } z age (c + 1) = some (n - 1)) := by
        rintro r rfl
        unfold countF
        by_cases h1 : c ≤ e.last
        · simp only [if_pos h1]
          rw [e3 _ _ hle]
          by_cases h2 : e.last = 4095
          · left
            rw [if_pos (.inl h2), if_pos (.inl h2)]
            exact ⟨rfl, ⟨_, rfl⟩, rfl⟩
          · right; right
            rw [if_neg (by omega), if_neg (by omega)]
            refine ⟨_, rfl, by omega, ⟨_, rfl⟩, ?_⟩
            by_cases h3 : c + 1 ≤ e.last
            · rw [if_pos h3]
              exact congrArg some (by omega)
            · rw [if_neg h3, if_pos (.inl (by omega))]
              exact congrArg some (by omega)
        · simp only [if_neg h1, show ¬ (e.last = 4095 ∨ 4095 < c) by omega, if_false]
          have op : c < 4095 → needO { D with es := eput D.es z ⟨age, c, none⟩ } z age (c + 1) = some 1 := by
            intro h9
            rw [e3 ⟨age, c, none⟩ _ (Int.le_refl _)]
            dsimp only
            rw [if_neg (by omega), if_neg (by omega), if_pos (.inl (by omega))]
          by_cases h2 : c ≤ e.last + D.near
          · simp only [if_pos h2]
            right; left
            rw [if_pos (.inl h2)]
            exact ⟨rfl, trivial, op⟩
          · simp only [if_neg h2]
            by_cases h3 : c ≤ e.last + D.far
            · simp only [if_pos h3]
              by_cases h4 : e.w = some (age, c - 1)
              · simp only [if_pos h4]
                right; left
                rw [if_pos (.inr ⟨h3, h4⟩)]
                exact ⟨rfl, trivial, op⟩
              · simp only [if_neg h4]
                rw [if_neg (by rintro (h | h); exact h2 h; exact h4 h.2), e3 ⟨e.age, e.last, some (age, c)⟩ _ hle]
                dsimp only
                by_cases h5 : c < e.last + D.far ∧ c < 4095
                · right; right
                  rw [if_pos h5]
                  refine ⟨2, rfl, by omega, ⟨_, rfl⟩, ?_⟩
                  rw [if_neg (by omega), if_neg (by omega), if_pos (.inr ⟨by omega, by rw [show c + 1 - 1 = c from by omega]⟩)]
                  rfl
                · left
                  rw [if_neg h5]
                  refine ⟨rfl, ⟨_, rfl⟩, ?_⟩
                  by_cases h6 : c < 4095
                  · rw [if_neg (by omega), if_neg (by omega), if_neg (by rintro (h | h) <;> omega), if_neg (by omega)]
                  · rw [if_pos (by omega)]
            · simp only [if_neg h3]
              left
              rw [if_neg (by rintro (h | h) <;> omega), if_neg (by omega), e3 _ _ hle]
              refine ⟨rfl, ⟨_, rfl⟩, ?_⟩
              by_cases h6 : c < 4095
              · rw [if_neg (by omega), if_neg (by omega), if_neg (by rintro (h | h) <;> omega), if_neg (by omega)]
              · rw [if_pos (by omega)]
      exact cf _ rfl
    · rw [due_not q ht]
      exact .inl ⟨need_not q ht, ⟨_, rfl⟩, need_not q ht⟩
theorem need_pos {D : Dm} (k : D.ok) {z : Str} {age c n : Int} (h : needO D z age c = some n) : 1 ≤ n ∧ c ≤ 4095 := by
  by_cases hc : c ≤ 4095
  · rcases need_step (deed := 0) k hc with ⟨e, _⟩ | ⟨e, _⟩ | ⟨m, e, hm, _⟩
    · rw [e] at h; cases h
    · rw [e] at h; cases h; exact ⟨by omega, hc⟩
    · rw [e] at h; cases h; exact ⟨by omega, hc⟩
  · rw [need_hi (by omega)] at h; cases h
theorem need_small {D : Dm} {z : Str} {age c n : Int} {m : Int} (hm : ∀ e, eget D.es z = some e → e.last ≤ c + m) (h0 : 0 ≤ m) (h : needO D z age c = some n) : n ≤ m + 2 := by
  unfold needO at h
  cases q : eget D.es z with
  | none => rw [q] at h; cases h
  | some e =>
    rw [q] at h
    have := hm e q
    dsimp only at h
    repeat' split at h
    all_goals first | (cases h; omega) | cases h
theorem Pq.optI {n : Nat} {o : Option Int} : Pq (n + 1) (VL.optI o) := by
  cases o with
  | none => exact .non
  | some i => exact .int
theorem Pl.optI {n : Nat} {o : Option Int} : Pl (n + 1) (VL.optI o) := by
  cases o with
  | none => exact .non
  | some i => exact .int
/-! deeds at a door -/
theorem edrop_mem {es : Ents} {z : Str} {p : Str × En} (h : p ∈ edrop es z) : p ∈ es ∧ p.1 ≠ z := by
  have := List.mem_filter.mp h
  exact ⟨this.1, of_decide_eq_true this.2⟩
theorem eget_edrop {es : Ents} {z : Str} : eget (edrop es z) z = none := eget_none.mpr fun p hp => (edrop_mem hp).2
theorem drop_ok {D : Dm} (k : D.ok) {z : Str} : ({ D with es := edrop D.es z } : Dm).ok :=
  ⟨k.tab, k.k1, k.k8, k.kd, k.n1, k.n2, k.f1, k.f2, k.m1, k.m2, k.c0, List.Nodup.sublist (show ((edrop D.es z).map (fun p => p.1)).Sublist (D.es.map (fun p => p.1)) from List.Sublist.map _ List.filter_sublist) k.nd, fun p hp => k.nm p (edrop_mem hp).1, Nat.le_trans edrop_length k.le, fun p hp => k.ev p (edrop_mem hp).1, fun p hp => k.ew p (edrop_mem hp).1⟩
theorem turn_ok {D : Dm} (k : D.ok) {ks : List Int} (h8 : D.keys.length < 8) (hk : Digs ks ∧ 1 ≤ ks.length ∧ ks.length ≤ 8) : ({ D with keys := D.keys ++ [ks] } : Dm).ok :=
  ⟨k.tab, by show 1 ≤ (D.keys ++ [ks]).length; rw [List.length_append]; simp, by show (D.keys ++ [ks]).length ≤ 8; rw [List.length_append]; simp; omega, fun x hx => by
    rcases List.mem_append.mp hx with h | h
    · exact k.kd x h
    · rw [List.mem_singleton.mp h]; exact hk, k.n1, k.n2, k.f1, k.f2, k.m1, k.m2, k.c0, k.nd, k.nm, k.le, fun p hp => by
    have := k.ev p hp
    show 0 ≤ p.2.age ∧ p.2.age < ((D.keys ++ [ks]).length : Nat) ∧ _
    rw [List.length_append]
    simp only [List.length_singleton]
    omega, k.ew⟩
theorem close_ok {D : Dm} (k : D.ok) {c : Int} (h : 0 ≤ c) : ({ D with closed := c } : Dm).ok := ⟨k.tab, k.k1, k.k8, k.kd, k.n1, k.n2, k.f1, k.f2, k.m1, k.m2, h, k.nd, k.nm, k.le, k.ev, k.ew⟩
theorem bounds_ok {D : Dm} (k : D.ok) {near far : Int} (h1 : 1 ≤ near) (h2 : near ≤ 64) (h3 : near ≤ far) (h4 : far ≤ 1024) : ({ D with near := near, far := far } : Dm).ok := ⟨k.tab, k.k1, k.k8, k.kd, h1, h2, h3, h4, k.m1, k.m2, k.c0, k.nd, k.nm, k.le, k.ev, k.ew⟩
theorem s_dpopE {a : Addr} {es : Ents} {z : Str} {e : En} {Ps Qs : List HP} {h : LH} {L : LK} (H : stars Ps h) (k : Ent Ps (pts a (.dic (dent es)) :: Qs)) (eq : eget es z = some e) (q : ∀ h', stars (pts a (.dic (dent (edrop es z))) :: Qs) h' → L e.lv h') : gDPop (.ref a) (.str z) h L := by
  refine i_dpopG (kvs := dent es) (k := .inr z) (v := e.lv) (stars_get0 (k _ H)) rfl (by rw [dent_get, eq]; rfl) ?_
  rw [dent_drop]
  exact q _ (stars_up0 (k _ H))
theorem ent_md2 {D : Dm} {M : Ma} {Cs Qs : List HP} (k : Pk Cs (md M D) Qs) : Ent Cs (pts M.k (.lst (D.keys.map tupI)) :: pts M.m (.dic (D.dd M)) :: pts M.d (.dic (dent D.es)) :: Qs) := (ent_md1 k).trans (Ent.pk (.there .here) Ent.refl)
end VL

set_option Elab.async false
set_option linter.all false
set_option maxRecDepth 100000
set_option maxHeartbeats 4000000
namespace VL
open PySem PySem.Spec PyProof.Rows L2
/-! dicts of names -/
section
variable {α : Type}
def aget (es : List (Str × α)) (z : Str) : Option α := (es.find? fun p => decide (p.1 = z)).map (·.2)
def aput (es : List (Str × α)) (z : Str) (e : α) : List (Str × α) := if (es.any fun p => decide (p.1 = z)) = true then es.map (fun p => if p.1 = z then (p.1, e) else p) else es ++ [(z, e)]
def dmap (f : α → LV) (es : List (Str × α)) : List (Key × LV) := es.map fun p => (.inr p.1, f p.2)
theorem dmap_get {f : α → LV} {es : List (Str × α)} {z : Str} : dget (dmap f es) (.inr z) = (aget es z).map f := by
  unfold dget aget dmap
  induction es with
  | nil => rfl
  | cons p r ih =>
    rw [List.map_cons, List.find?_cons, List.find?_cons]
    dsimp only
    rw [dec_inr]
    cases decide (p.1 = z) with
    | true => rfl
    | false => exact ih
theorem dmap_any {f : α → LV} {es : List (Str × α)} {z : Str} : ((dmap f es).any fun kv => decide (kv.1 = Sum.inr z)) = es.any fun p => decide (p.1 = z) := by
  unfold dmap
  rw [List.any_map]
  congr 1
  funext p
  exact dec_inr
theorem dmap_put {f : α → LV} {es : List (Str × α)} {z : Str} {e : α} : dput (dmap f es) (.inr z) (f e) = dmap f (aput es z e) := by
  unfold dput aput
  rw [dmap_any]
  split
  · unfold dmap
    rw [List.map_map, List.map_map]
    congr 1
    funext p
    show (if (Sum.inr p.1 : Key) = Sum.inr z then ((Sum.inr p.1 : Key), f e) else (Sum.inr p.1, f p.2)) = _
    by_cases h : p.1 = z
    · rw [if_pos (by rw [h])]
      show _ = (Sum.inr (if p.1 = z then (p.1, e) else p).1, f (if p.1 = z then (p.1, e) else p).2)
      rw [if_pos h]
    · rw [if_neg fun q => h (Sum.inr.inj q)]
      show _ = (Sum.inr (if p.1 = z then (p.1, e) else p).1, f (if p.1 = z then (p.1, e) else p).2)
      rw [if_neg h]
  · unfold dmap
    rw [List.map_append]
    rfl
theorem dmap_length {f : α → LV} {es : List (Str × α)} : (dmap f es).length = es.length := List.length_map ..
theorem aget_aput {es : List (Str × α)} {z : Str} {e : α} : aget (aput es z e) z = some e := by
  unfold aput
  split
  · rename_i h
    unfold aget
    induction es with
    | nil => cases h
    | cons p r ih =>
      rw [List.map_cons, List.find?_cons]
      by_cases hp : p.1 = z
      · rw [if_pos hp]
        dsimp only
        rw [decide_eq_true hp]
        rfl
      · rw [if_neg hp, decide_eq_false hp]
        rw [List.any_cons, decide_eq_false hp, Bool.false_or] at h
        exact ih h
  · rename_i h
    unfold aget
    rw [List.find?_append]
    have : (es.find? fun p => decide (p.1 = z)) = none := List.find?_eq_none.mpr fun p hp q => h (List.any_eq_true.mpr ⟨p, hp, q⟩)
    rw [this, Option.none_or, List.find?_cons]
    dsimp only
    rw [decide_eq_true rfl]
    rfl
theorem aget_aput_ne {es : List (Str × α)} {y z : Str} {e : α} (n : y ≠ z) : aget (aput es z e) y = aget es y := by
  unfold aput
  split
  · rename_i hx
    clear hx
    unfold aget
    induction es with
    | nil => rfl
    | cons p r ih =>
      rw [List.map_cons, List.find?_cons, List.find?_cons]
      by_cases hp : p.1 = z
      · have hy : p.1 ≠ y := fun q => n (q.symm.trans hp)
        rw [if_pos hp]
        dsimp only
        rw [decide_eq_false hy]
        exact ih
      · rw [if_neg hp]
        cases decide (p.1 = y) with
        | true => rfl
        | false => exact ih
  · unfold aget
    rw [List.find?_append]
    cases q : es.find? fun p => decide (p.1 = y) with
    | some p => rfl
    | none =>
      rw [Option.none_or, List.find?_cons]
      dsimp only
      rw [decide_eq_false fun q => n q.symm]
      rfl
theorem aput_length {es : List (Str × α)} {z : Str} {e : α} : (aput es z e).length ≤ es.length + 1 := by
  unfold aput
  split
  · rw [List.length_map]; omega
  · rw [List.length_append]; simp
end
def prLv : Int × Int → LV := fun p => .tup [.int p.1, .int p.2]
abbrev dpair (es : List (Str × (Int × Int))) : List (Key × LV) := dmap prLv es
theorem dpair_put {es : List (Str × (Int × Int))} {z : Str} {a b : Int} : dput (dpair es) (.inr z) (.tup [.int a, .int b]) = dpair (aput es z (a, b)) := dmap_put (f := prLv) (e := (a, b))
theorem i_ix_pair {h : LH} {L : LK} {a : Addr} {es : List (Str × (Int × Int))} {z : Str} {p : Int × Int} (ea : h a = some (.dic (dpair es))) (eq : aget es z = some p) (q : L (.tup [.int p.1, .int p.2]) h) : gIx (.ref a) (.str z) h L := i_ix_dic ea rfl (v := prLv p) (by rw [dmap_get, eq]; rfl) q
/-- what becomes of the others -/
theorem due_last {D : Dm} {y z : Str} {age c deed : Int} {e' : En} (h : eget (dueF D z age c deed).2.es y = some e') : ∃ e, eget D.es y = some e ∧ (e'.last = e.last ∨ (y = z ∧ e'.last = c)) := by
  cases q : eget D.es z with
  | none => rw [due_no q] at h; exact ⟨e', h, .inl rfl⟩
  | some e =>
    by_cases ht : D.takes age ∧ ¬ age < e.age
    · rw [due_some q ht] at h
      dsimp only at h
      by_cases hy : y = z
      · subst hy
        rw [eget_eput] at h
        injection h with h
        subst h
        refine ⟨e, q, ?_⟩
        unfold countF
        repeat' split
        all_goals first | exact .inl rfl | exact .inr ⟨rfl, rfl⟩
      · rw [eget_eput_ne hy] at h
        exact ⟨e', h, .inl rfl⟩
    · rw [due_not q ht] at h; exact ⟨e', h, .inl rfl⟩
theorem i_ix_last {a : Addr} {xs : List LV} {x : LV} {h : LH} {L : LK} (e : h a = some (.lst (xs ++ [x]))) (q : L x h) : gIx (.ref a) (.int (-1)) h L := i_ix_lst e (by
  unfold atI
  have h1 : ixN (xs ++ [x]).length (-1) = some xs.length := by
    unfold ixN
    rw [List.length_append]
    simp
    omega
  rw [h1]
  simp) q
end VL

set_option Elab.async false
set_option linter.all false
set_option maxRecDepth 100000
set_option maxHeartbeats 4000000
namespace VL
open PySem PySem.Spec PyProof.Rows L2
/-! doors that know the same, in whatever order -/
structure Sm (N D : Dm) : Prop where
  tab : N.tab = D.tab
  keys : N.keys = D.keys
  near : N.near = D.near
  far : N.far = D.far
  most : N.most = D.most
  closed : N.closed = D.closed
  get : ∀ z, eget N.es z = eget D.es z
theorem Sm.refl {D : Dm} : Sm D D := ⟨rfl, rfl, rfl, rfl, rfl, rfl, fun _ => rfl⟩
theorem nodup_perm {l m : List Str} (hl : l.Nodup) (hm : m.Nodup) (h : ∀ z, z ∈ l ↔ z ∈ m) : l.Perm m := (List.perm_ext_iff_of_nodup hl hm).mpr h
theorem names_iff {es : Ents} {z : Str} : z ∈ names es ↔ ∃ e, eget es z = some e := by
  constructor
  · intro h
    obtain ⟨p, hp, rfl⟩ := List.mem_map.mp h
    cases q : eget es p.1 with
    | some e => exact ⟨e, rfl⟩
    | none => exact absurd rfl (eget_none.mp q p hp)
  · rintro ⟨e, he⟩
    exact List.mem_map.mpr ⟨_, eget_mem he, rfl⟩
theorem srtS_congr {l m : List Str} (p : l.Perm m) : srtS l = srtS m :=
  sort_uniq (fun _ _ => leS_anti) (((List.mergeSort_perm l leS).trans p).trans (List.mergeSort_perm m leS).symm) (List.pairwise_mergeSort (le := leS) leS_trans leS_total l) (List.pairwise_mergeSort (le := leS) leS_trans leS_total m)
theorem Sm.names {N D : Dm} (s : Sm N D) (kN : N.ok) (kD : D.ok) : (VL.names N.es).Perm (VL.names D.es) := nodup_perm kN.nd kD.nd fun z => by rw [names_iff, names_iff, s.get]
theorem Sm.known {N D : Dm} (s : Sm N D) (kN : N.ok) (kD : D.ok) : knownF N = knownF D := by
  unfold knownF
  rw [srtS_congr (s.names kN kD)]
  congr 1
  funext z
  rw [s.get]
theorem Sm.put {N D : Dm} (s : Sm N D) {z : Str} {e : En} : Sm { N with es := eput N.es z e } { D with es := eput D.es z e } := ⟨s.tab, s.keys, s.near, s.far, s.most, s.closed, fun y => by
  show eget (eput N.es z e) y = eget (eput D.es z e) y
  by_cases h : y = z
  · rw [h, eget_eput, eget_eput]
  · rw [eget_eput_ne h, eget_eput_ne h, s.get]⟩
theorem Sm.due {N D : Dm} (s : Sm N D) {z : Str} {age count deed : Int} : (dueF N z age count deed).1 = (dueF D z age count deed).1 ∧ Sm (dueF N z age count deed).2 (dueF D z age count deed).2 := by
  cases q : eget D.es z with
  | none =>
    have qN : eget N.es z = none := by rw [s.get, q]
    rw [due_no q, due_no qN]
    exact ⟨rfl, s⟩
  | some e =>
    have qN : eget N.es z = some e := by rw [s.get, q]
    have et : N.takes age = D.takes age := by unfold Dm.takes; rw [s.closed, s.keys]
    by_cases ht : D.takes age ∧ ¬ age < e.age
    · have ec : countF N e z age count deed = countF D e z age count deed := by unfold countF; rw [s.near, s.far]
      rw [due_some q ht, due_some qN (by rw [et]; exact ht), ec]
      exact ⟨rfl, s.put⟩
    · rw [due_not q ht, due_not qN (by rw [et]; exact ht)]
      exact ⟨rfl, s⟩
end VL

set_option Elab.async false
set_option linter.all false
set_option maxRecDepth 100000
set_option maxHeartbeats 4000000
namespace VL
open PySem PySem.Spec PyProof.Rows L2
/-! coded of what decoded tells -/
theorem tab_all {tab : List Int} (h : tab.Perm (rgL 16)) {i : Int} (h0 : 0 ≤ i) (h1 : i < 16) : i ∈ tab := by
  rw [h.mem_iff]
  unfold rgL
  exact List.mem_map.mpr ⟨i.toNat, List.mem_range.mpr (by omega), by show ((i.toNat : Nat) : Int) = i; omega⟩
theorem forth_of {tab : List Int} (h : tab.Perm (rgL 16)) {i : Int} (h0 : 0 ≤ i) (h1 : i < 16) : gI tab (gI (backF tab) i) = i ∧ 0 ≤ gI (backF tab) i ∧ gI (backF tab) i < 16 := by
  have T := Tab.of_perm h
  obtain ⟨j, hj, e⟩ := List.getElem_of_mem (tab_all h h0 h1)
  have hl := T.len
  have e2 : gI tab (j : Int) = i := by rw [gI_nat hj, e]
  have e3 := back_of T (i := (j : Int)) (by omega) (by omega)
  rw [e2] at e3
  rw [e3, e2]
  exact ⟨rfl, by omega, by omega⟩
theorem x_stepD_length {B : List Int} {turn : Int} {m : List Int} {p : Nat} : (stepD B turn m p).length = m.length := by unfold stepD; rw [List.length_set]
theorem x_stepD_digs {B : List Int} {turn : Int} {m : List Int} {p : Nat} (d : Digs m) : Digs (stepD B turn m p) := fun x hx => by
  unfold stepD at hx
  rcases List.mem_or_eq_of_mem_set hx with e | e
  · exact d x e
  · rw [e]
    exact ⟨Int.emod_nonneg _ (by omega), Int.emod_lt_of_pos _ (by omega)⟩
theorem step_forth {tab : List Int} (h : tab.Perm (rgL 16)) {turn : Int} {m : List Int} {p : Nat} (d : Digs m) (hp : p < m.length) (h2 : 2 ≤ m.length) : stepC tab turn (stepD (backF tab) turn m p) p = m := by
  unfold stepD stepC
  rw [gI_set_same hp, gI_set_prev hp h2, List.set_set]
  have dm := d _ (gI_mem (m := m) (i := p) (by omega) (by omega) (by omega))
  obtain ⟨f1, f2, f3⟩ := forth_of h dm.1 dm.2
  have e : ((gI (backF tab) (gI m p) - turn - p - gI m ((p : Int) - 1)) % 16 + turn + p + gI m ((p : Int) - 1)) % 16 = gI (backF tab) (gI m p) := by omega
  rw [e, f1, gI_nat hp]
  exact List.set_getElem_self hp
theorem x_foldD_length {B : List Int} {turn : Int} : ∀ (ps : List Nat) (m : List Int), (ps.foldl (stepD B turn) m).length = m.length
  | [], _ => rfl
  | p :: ps, m => by rw [List.foldl_cons, x_foldD_length ps, x_stepD_length]
theorem x_foldD_digs {B : List Int} {turn : Int} : ∀ (ps : List Nat) (m : List Int), Digs m → Digs (ps.foldl (stepD B turn) m)
  | [], _, d => d
  | p :: ps, m, d => x_foldD_digs ps _ (x_stepD_digs d)
theorem fold_forth {tab : List Int} (h : tab.Perm (rgL 16)) {turn : Int} : ∀ (ps : List Nat) (m : List Int), Digs m → 2 ≤ m.length → (∀ p ∈ ps, p < m.length) → ps.foldl (stepC tab turn) (ps.reverse.foldl (stepD (backF tab) turn) m) = m
  | [], _, _, _, _ => rfl
  | p :: ps, m, d, h2, hp => by
    have hl := x_foldD_length (B := backF tab) (turn := turn) ps.reverse m
    rw [List.foldl_cons, List.reverse_cons, List.foldl_append]
    show ps.foldl (stepC tab turn) (stepC tab turn (stepD (backF tab) turn (ps.reverse.foldl (stepD (backF tab) turn) m) p) p) = m
    rw [step_forth h (x_foldD_digs _ _ d) (by rw [hl]; exact hp p List.mem_cons_self) (by rw [hl]; exact h2)]
    exact fold_forth h ps m d h2 fun q hq => hp q (List.mem_cons_of_mem _ hq)
theorem x_roundD_length {B : List Int} {turn : Int} {m : List Int} : (roundD B m turn).length = m.length := x_foldD_length _ _
theorem x_roundD_digs {B : List Int} {turn : Int} {m : List Int} (d : Digs m) : Digs (roundD B m turn) := x_foldD_digs _ _ d
theorem round_forth {tab : List Int} (h : tab.Perm (rgL 16)) {turn : Int} {m : List Int} (d : Digs m) (h2 : 2 ≤ m.length) : roundC tab (roundD (backF tab) m turn) turn = m := by
  unfold roundC
  rw [x_roundD_length]
  exact fold_forth h _ m d h2 fun p hp => List.mem_range.mp hp
theorem x_rounds_len {B : List Int} : ∀ (ks : List Int) (m : List Int), (ks.foldl (roundD B) m).length = m.length
  | [], _ => rfl
  | k :: ks, m => by rw [List.foldl_cons, x_rounds_len ks, x_roundD_length]
theorem x_rounds_digs {B : List Int} : ∀ (ks : List Int) (m : List Int), Digs m → Digs (ks.foldl (roundD B) m)
  | [], _, d => d
  | k :: ks, m, d => x_rounds_digs ks _ (x_roundD_digs d)
theorem code_decode {tab : List Int} (h : tab.Perm (rgL 16)) : ∀ {key dig : List Int}, Digs dig → 2 ≤ dig.length → codedF tab key (decodedF tab key dig) = dig
  | [], _, _, _ => rfl
  | t :: key, dig, d, h2 => by
    unfold codedF decodedF
    rw [List.reverse_cons, List.foldl_append, List.foldl_cons]
    show key.foldl (roundC tab) (roundC tab (roundD (backF tab) (key.reverse.foldl (roundD (backF tab)) dig) t) t) = dig
    rw [round_forth h (x_rounds_digs _ _ d) (by rw [x_rounds_len]; exact h2)]
    exact code_decode h (key := key) d h2
theorem decodedF_len {tab key dig : List Int} : (decodedF tab key dig).length = dig.length := x_rounds_len _ _
theorem decodedF_digs {tab key dig : List Int} (d : Digs dig) : Digs (decodedF tab key dig) := x_rounds_digs _ _ d
/-! lists of lists of numbers, == -/
theorem allD_ints {h : LH} {n : Nat} : ∀ xs : List Int, allD (toD h (n + 1)) (xs.map .int) = some (xs.map PyData.int)
  | [] => rfl
  | x :: xs => by
    show allD (toD h (n + 1)) (LV.int x :: xs.map .int) = _
    unfold allD
    rw [allD_ints xs]
    rfl
theorem toD_ints {h : LH} {a : Addr} {n : Nat} {xs : List Int} (e : h a = some (.lst (xs.map .int))) : toD h (n + 2) (.ref a) = some (.list (xs.map PyData.int)) := by
  unfold toD
  dsimp only
  rw [e]
  dsimp only
  rw [allD_ints]
theorem lay_ints : ∀ xs : List Int, PyData.canLayAll0 (xs.map PyData.int) = true ∧ PyData.depthAll (xs.map PyData.int) ≤ 0
  | [] => ⟨rfl, Nat.le_refl _⟩
  | x :: xs => by
    obtain ⟨h1, h2⟩ := lay_ints xs
    constructor
    · show PyData.canLayAll0 (PyData.int x :: xs.map PyData.int) = true
      unfold PyData.canLayAll0
      rw [h1]
      rfl
    · show PyData.depthAll (PyData.int x :: xs.map PyData.int) ≤ 0
      unfold PyData.depthAll
      exact Nat.max_le.mpr ⟨Nat.le_refl _, h2⟩
theorem i_ne_3 {h : LH} {L : LK} {o p a b c d e f : Addr} {xs ys zs : List Int} (h1 : h o = some (.lst [.ref a, .ref b, .ref c])) (h2 : h p = some (.lst [.ref d, .ref e, .ref f]))
    (ha : h a = some (.lst (xs.map .int))) (hb : h b = some (.lst (ys.map .int))) (hc : h c = some (.lst (zs.map .int))) (hd : h d = some (.lst (xs.map .int))) (he : h e = some (.lst (ys.map .int))) (hf : h f = some (.lst (zs.map .int)))
    (q : L (.bl false) h) : gEqW (!·) (.ref o) (.ref p) h L := by
  have t : ∀ {r u v w : Addr}, h r = some (.lst [.ref u, .ref v, .ref w]) → h u = some (.lst (xs.map .int)) → h v = some (.lst (ys.map .int)) → h w = some (.lst (zs.map .int)) → toD h 8 (.ref r) = some (.list [.list (xs.map PyData.int), .list (ys.map PyData.int), .list (zs.map PyData.int)]) := by
    intro r u v w hr hu hv hw
    have e1 : toD h 7 (.ref u) = _ := toD_ints hu
    have e2 : toD h 7 (.ref v) = _ := toD_ints hv
    have e3 : toD h 7 (.ref w) = _ := toD_ints hw
    unfold toD
    dsimp only
    rw [hr]
    dsimp only
    have e4 : allD (toD h 7) [LV.ref u, .ref v, .ref w] = some [.list (xs.map PyData.int), .list (ys.map PyData.int), .list (zs.map PyData.int)] := by
      unfold allD allD allD allD
      rw [e1, e2, e3]
    rw [e4]
  have l1 := lay_ints xs
  have l2 := lay_ints ys
  have l3 := lay_ints zs
  have lay : (PyData.list [.list (xs.map PyData.int), .list (ys.map PyData.int), .list (zs.map PyData.int)]).canLay0 = true := by
    simp only [PyData.canLay0, PyData.canLayAll0, l1.1, l2.1, l3.1, Bool.and_self, Bool.and_true]
  have dep : (PyData.list [.list (xs.map PyData.int), .list (ys.map PyData.int), .list (zs.map PyData.int)]).depth ≤ 8 := by
    have d1 := l1.2
    have d2 := l2.2
    have d3 := l3.2
    simp only [PyData.depth, PyData.depthAll]
    omega
  have sh : SeqAt.shaped (PyData.list [.list (xs.map PyData.int), .list (ys.map PyData.int), .list (zs.map PyData.int)]) = true := by
    unfold SeqAt.shaped
    rw [lay]
    simp only [Bool.true_and, decide_eq_true_eq]
    omega
  exact i_eqD (t h1 ha hb hc) (t h2 hd he hf) sh sh (by rw [SeqAt.eqv_refl _ lay]; exact q) rfl
end VL

set_option Elab.async false
set_option linter.all false
set_option maxRecDepth 100000
set_option maxHeartbeats 4000000
/-! exceptions: a caught one is a value (LV.exc) -/
namespace VL
open PySem PySem.Spec PyProof.Rows L2

/-! ### what is there already is told of -/
theorem exT_ok {P : Program} {w : World} {H : Hp} {h : Heap} {a C : Addr} {d : Option Addr} {o : Obj} {vs : Array Value} (e : h.get? a = some o) (hc : o.cls = .ref C) (hd : o.dict = d) (hv : o.data = .fields vs) : ObjOk P w H h a (exT a C d) :=
  ⟨⟨o, vs, e, hc, hd, hv⟩, ⟨_, e⟩, fun h1 h2 ⟨o1, vs1, e1, c1, d1, v1⟩ k => ⟨o1, vs1, k _ e1, c1, d1, v1⟩⟩
theorem exT_at {P : Program} {w : World} {H : Hp} {h : Heap} {a C : Addr} {d : Option Addr} (hok : HOk P w H h) (e : H a = some (exT a C d)) : ∃ (o : Obj) (vs : Array Value), h.get? a = some o ∧ o.cls = .ref C ∧ o.dict = d ∧ o.data = .fields vs := by
  have x : ObjOk P w H h a (.ext fun h => ∃ (o : Obj) (vs : Array Value), h.get? a = some o ∧ o.cls = .ref C ∧ o.dict = d ∧ o.data = .fields vs) := hok a _ e
  exact x.1
theorem inv_track {X : Cx} {pins : List (Addr × Obj)} {σ : L2.St} {H : Hp} {s : Shared} {a C : Addr} {d : Option Addr} {o : Obj} {vs : Array Value} (I : Inv X pins σ H s) (h0 : X.s_0.heap.get? a = none) (na : H a = none) (nL : a ≠ X.env.locals) (np : ∀ p ∈ X.pn ++ pins, p.1 ≠ a)
    (e : s.heap.get? a = some o) (hc : o.cls = .ref C) (hd : o.dict = d) (hv : o.data = .fields vs) : Inv X pins σ (upd H a (exT a C d)) s := by
  have hne : ∀ b u, H b = some u → b ≠ a := fun b u q z => by rw [z, na] at q; cases q
  refine ⟨I.ok, I.os, I.bare, ⟨I.base.keep, I.base.slot, fun b ob q n hx => ?_, I.base.there, fun b xs q => ?_, fun b ob u q => ?_, fun b ps q => ?_⟩, I.loc, I.cell, ?_, fun x c q => ?_, fun p hp => ?_, I.hok.laidN (fun _ _ z => z) na (exT_ok e hc hd hv), I.len⟩
  · rw [upd_ne (fun z => by rw [z, h0] at q; cases q)]; exact I.base.free b ob q n hx
  · have z := I.base.tups b xs q; rw [upd_ne (hne _ _ z)]; exact z
  · have z := I.base.frzs b ob u q; rw [upd_ne (hne _ _ z)]; exact z
  · obtain ⟨m, z⟩ := I.base.tbls b ps q; exact ⟨m, by rw [upd_ne (hne _ _ z)]; exact z⟩
  · rw [upd_ne (Ne.symm nL)]; exact I.free
  · have n : c ≠ a := fun z => by
      obtain ⟨v, ob, q1, q2⟩ := I.cell x c q
      rw [z, e] at q1
      cases q1
      rw [hv] at q2
      cases q2
    rw [upd_ne n]; exact I.freeC x c q
  · obtain ⟨h1, h2, h3⟩ := I.pin p hp
    exact ⟨h1, by rw [upd_ne (np p hp)]; exact h2, h3⟩

/-! ### try: .. except X as n: the exception is a value from then on -/
/-- what the clause wishes of an exception of the body: slot i is n's -/
def wTr (K : PySem.W.Frag) (c : Value) (i : Nat) (ts : TS) (Wout : WX) (D : Ends) : WX := fun cls d σ H =>
  ∃ b, PySem.W.exmOne K cls c = some b ∧ (b = true → ∃ C, cls = .ref C ∧ ∀ a, H a = none → ts { nx := fun σ' H' => D.nx (σ'.set i none) H', rt := D.rt, bk := fun σ' H' => D.bk (σ'.set i none) H', ct := fun σ' H' => D.ct (σ'.set i none) H' } (σ.set i (some (.ref a))) (upd H a (exT a C d))) ∧
    (b = false → Wout cls d σ H)
section
variable {X : Cx} {pins : List (Addr × Obj)} {σ : L2.St} {H : Hp} {s : Shared} {x n : Str} {c : Value} {i : Nat} {body suite : List Stmt} {b₀ : Stmt} {np pos pos' : Pos} {tb : WX → TS} {ts : TS} {Wout : WX}
theorem inv_suite (I : Inv X pins σ H s) (a : Addr) : Inv (X.suite a (X.pn ++ pins)) [] σ H s :=
  ⟨I.ok.suite _ _, I.os, I.bare, I.base, I.loc, I.cell, I.free, I.freeC, fun p hp => I.pin p (by rw [List.append_nil] at hp; exact hp), I.hok, I.len⟩
theorem inv_unsuite {a : Addr} {pn' : List (Addr × Obj)} (I : Inv (X.suite a (X.pn ++ pins)) pn' σ H s) (ok : X.Ok) : Inv X pins σ H s :=
  ⟨ok, I.os, I.bare, I.base, I.loc, I.cell, I.free, I.freeC, fun p hp => I.pin p (List.mem_append_left _ hp), I.hok, I.len⟩
theorem ps_try_tr (hs : X.stack = X.env :: X.outer) (hf : X.env.frame = some X.env.locals) (hex : X.ex = []) (hN : X.N.Nodup) (hi : X.N[i]? = some n) (hln : X.env.kindOf n = some .local) (hc : Names X x c) (tk : Takes X Wout)
    (hb : ∀ (W : WX) (pn : List (Addr × Obj)) (xe : Value → Shared → Prop), Takes (X.tr pn xe) W → PassesOwn (model X.prog X.w) X.A X.env xe → PSs (X.tr pn xe) body (tb W))
    (hsu : ∀ (a : Addr) (pn : List (Addr × Obj)), PSs (X.suite a pn) (b₀ :: suite) ts) :
    PS X (.Try body [.ExceptHandler (some (.Name x np)) (some n) (b₀ :: suite) pos'] [] [] pos) (fun D σ H => tb (wTr X.K c i ts Wout D) D σ H) := by
  refine ⟨fun pins s σ H D I h => ?_⟩
  have ok := I.ok
  have hfr : X.A.frames = some (X.env :: X.outer) := by rw [ok.frames, hs]
  have hloc : Loc X.env.scope n := .inl hln
  refine wpAny_Try_except ?_
  refine wpAny_mono ((hb (wTr X.K c i ts Wout D) (X.pn ++ pins) (fun e s₁ => wpAny (model X.prog X.w) X.A (noteFrame e X.env) (fun _ s₂ => wpAny (model X.prog X.w) X.A (setFlight e none) (fun _ s₃ =>
    wpAny (model X.prog X.w) X.A (handleBy e X.env [.ExceptHandler (some (.Name x np)) (some n) (b₀ :: suite) pos']) (SP X pins D) X.xe s₃) X.xe s₂) X.xe s₁) (fun u s' xx => ?_) PassesOwn.looking).run [] s σ H D (I.toTry _) h) (fun f s1 hsp => ?_) (fun e s1 he => he)
  · obtain ⟨a, B, sI, pins', σ', H', cls, d, rfl, J', nb, up, sky, na, os, ag, b, hb1, hyes, hno⟩ := xx
    have J : Inv X pins σ' H' sI := J'.ofTry ok
    have sky' : Sky B (X.env :: X.outer) a (Zc cls d) X.env.locals s'.heap := by rw [← hs]; exact sky
    show wpAny (model X.prog X.w) X.A (noteFrame (.ref a) X.env) _ _ _
    refine Sky.land Zc.steady hfr hf sky' fun h3 fl3 up3 => ?_
    have J3 : Inv X pins σ' H' { s' with heap := h3 } := J.landed nb fl3.1 (up.trans up3) os ag
    obtain ⟨oe3, vs3, he3, hz3, hd3⟩ := fl3.there
    have notFr : ∀ {h : Heap} {o : Obj} {vs : Array Value}, h.FunFrames B (X.env :: X.outer) → h.get? a = some o → o.data = .fields vs → a ∉ frs (X.env :: X.outer) := fun {h o vs} ff e dd hm => by
      obtain ⟨_, o', e', hnf⟩ := ff.mem hm
      rw [e] at e'; cases e'
      exact hnf _ dd
    have nfr := notFr fl3.2.2.1 he3 hd3
    have nL : a ≠ X.env.locals := fun z => nfr (List.mem_filterMap.mpr ⟨X.env, List.mem_cons_self, by rw [hf, z]⟩)
    have nF : a ∉ X.fs := fun hm => by
      obtain ⟨e, he, q⟩ := List.mem_filterMap.mp hm
      exact nfr (List.mem_filterMap.mpr ⟨e, List.mem_cons_of_mem _ he, q⟩)
    have nI : sI.heap.get? a = none := by
      cases q : sI.heap.get? a with
      | none => rfl
      | some o =>
        have z := nb a o q (by rw [hs]; exact nfr)
        have z2 : B.get? a = none := fl3.2.1
        rw [z2] at z; cases z
    have n0 : X.s_0.heap.get? a = none := by
      cases q : X.s_0.heap.get? a with
      | none => rfl
      | some o =>
        obtain ⟨o', z⟩ := J.base.there a o q (by rw [hex]; exact fun z => nomatch z)
        rw [nI] at z; cases z
    have nP : ∀ p ∈ X.pn ++ pins, p.1 ≠ a := fun p hp z => by
      have q := (J.pin p hp).1
      rw [z, nI] at q; cases q
    have S3 := J3.suite he3 hd3 na nL nF
    refine wpAny_handleBy_cons (codeAny_handlers_test ?_) (by intro q; cases q)
    have LT : PySem.W.Looks (model X.prog X.w) h3 (typeOf (.ref a)) cls := fun A Q E s k q => wpAny_typeOf_ref (k _ _ he3) (by rw [hz3.1]; exact q)
    have LM := PySem.W.exm_one (M := model X.prog X.w) (J3.kIn) LT hb1
    have test : ∀ {Q : Value → Shared → Prop} {E : Value → Shared → Prop}, Q c { s' with heap := h3 } → wpAny (model X.prog X.w) (X.A.mark (some (.ref a))) (eval (.Name x np) X.env) Q E { s' with heap := h3 } := fun {Q E} q => by
      obtain ⟨hg, hdbg, hm | ⟨hm, hv, hnn⟩⟩ := hc
      · exact ld_glob (X := X.suite a ((a, oe3) :: (X.pn ++ pins))) S3 hg hm q hdbg
      · exact ld_blt (X := X.suite a ((a, oe3) :: (X.pn ++ pins))) S3 hg hm hv q hnn hdbg
    refine test (LM.here ?_)
    cases b with
    | true =>
      obtain ⟨C, rfl, hyes2⟩ := hyes rfl
      refine codeAny_handlers_suite_as ?_
      refine PySem.HandSPX.lands_againZ fl3 fun h4 fl4 up4 => ?_
      have J4 : Inv X pins σ' H' { s' with heap := h4 } := J.landed nb fl4.1 ((up.trans up3).trans up4) os ag
      obtain ⟨oe4, vs4, he4, hz4, hd4⟩ := fl4.there
      have T4 := inv_track (d := d) J4 n0 na nL nP he4 hz4.1 hz4.2 hd4
      have S4 := inv_suite T4 a
      refine store_ok (X := X.suite a (X.pn ++ pins)) (v := .ref a) S4 hN hi hloc rfl (fun s5 S5 => ?_) (.inr hln)
      refine wpAny_mono ((hsu a (X.pn ++ pins)).run [] s5 _ _ _ S5 (hyes2 a na)) (fun f s6 hsp => ?_) (fun _ _ z => False.elim z)
      have end_ : ∀ {σ6 : L2.St} {H6 : Hp} {Q : Shared → Prop}, Inv (X.suite a (X.pn ++ pins)) [] σ6 H6 s6 → (∀ s7, Inv X pins (σ6.set i none) H6 s7 → Q s7) →
          wpAny (model X.prog X.w) X.A (do bindName X.env n .none; unbindBehindTheSuite X.env n pos') (fun _ s7 => Q s7) X.xe s6 := fun {σ6 H6 Q} S6 hq => gone_ok (inv_unsuite S6 ok) hN hi hln hq
      cases f with
      | next =>
        obtain ⟨σ6, H6, S6, q6⟩ := hsp
        exact end_ S6 fun s7 J7 => ⟨_, _, J7, q6⟩
      | brk =>
        obtain ⟨σ6, H6, S6, q6⟩ := hsp
        exact end_ S6 fun s7 J7 => ⟨_, _, J7, q6⟩
      | cont =>
        obtain ⟨σ6, H6, S6, q6⟩ := hsp
        exact end_ S6 fun s7 J7 => ⟨_, _, J7, q6⟩
      | ret u =>
        obtain ⟨v6, σ6, H6, S6, r6, q6⟩ := hsp
        exact end_ S6 fun s7 J7 => ⟨_, _, _, J7, r6, q6⟩
    | false =>
      show wpAny _ X.A (handleBy (.ref a) X.env []) _ _ _
      refine wpAny_handleBy_nil ?_
      obtain ⟨k1, k2, k3, oe, vs, T, oT, ts', he, hz, hd, h1, hr⟩ := id fl3
      unfold PySem.passOn
      refine wpAny_bind (wpAny_field he hd h1 ?_)
      rw [if_neg (show ¬ ((Value.ref T == Value.none) = true) from by simp)]
      have fin : wpAny (model X.prog X.w) X.A (setFlight (.ref a) X.env.frame) (fun _ s4 => wpAny (model X.prog X.w) X.A (throw (.ref a) : Sem Flow) (SP X pins D) X.xe s4) X.xe { s' with heap := h3 } := by
        rw [hf]
        refine PySem.HandSPX.setFlight_upZ fl3 fun h4 hh4 up4 => wpAny_throw (tk _ _ ?_)
        exact ⟨a, B, sI, pins, σ', H', cls, d, rfl, J, nb, (up.trans up3).trans up4, .inr (.inr (by rw [hs]; exact hh4)), na, os, ag, hno rfl⟩
      first
        | exact wpAny_bind (wpAny_pure (wpAny_bind fin))
        | exact wpAny_bind fin
  · cases f with
    | next =>
      obtain ⟨σ', H', J', q⟩ := hsp
      exact wpAny_execs_nil ⟨σ', H', J'.ofTry ok, q⟩
    | brk =>
      obtain ⟨σ', H', J', q⟩ := hsp
      exact ⟨σ', H', J'.ofTry ok, q⟩
    | cont =>
      obtain ⟨σ', H', J', q⟩ := hsp
      exact ⟨σ', H', J'.ofTry ok, q⟩
    | ret u =>
      obtain ⟨v, σ', H', J', r, q⟩ := hsp
      exact ⟨v, σ', H', J'.ofTry ok, r, q⟩
end

/-! ### CodeError.__init__(self, ..) : an own class's built-in __init__ -/
section
variable {X : Cx} {e : Expr} {es : List Expr} {ta : TA} {p1 p2 pos : Pos}
theorem pe_ceinit {pl : Sem Bool} {cn : Str} {CE : Addr} {mc : Value} (hm : X.mg cn = some (.ref CE)) (r : ClX.CRead X.K CE mc) (k : PySem.W.findCls X.K (.ref CE) mc "__init__" = some (.val (.builtin "ValueError.__init__"))) (ha : PA X (e :: es) ta) (hg : Gl X cn := by rfl)
    (hdb : (cn == ("__debug__" : Str)) = false := by decide)
    (hc : eval (.Call (.Attribute (.Name cn p1) "__init__" p2) (e :: es) [] pos) X.env = (do
      let ov ← eval (.Name cn p1) X.env
      standAt p2.atName
      let (f, first) ← holding [ov] (getMethod ov "__init__" pl)
      callWith pos f first (backTo pos (starEach (e :: es) X.env)) (backToKw pos (keywordEach [] X.env))) := by rfl)
    (he : starEach (e :: es) X.env = (false, eval e X.env) :: starEach es X.env := by rfl) (hpl : (backTo pos (starEach es X.env)).any (·.1) = false := by rfl) :
    PE X (.Call (.Attribute (.Name cn p1) "__init__" p2) (e :: es) [] pos) (tVeI X.K ta) := by
  refine ⟨fun pins s σ H Q I h => ?_⟩
  refine PySem.W.methodCall_KW (ld_glob I hg hm ?_ hdb) hc
  refine PySem.W.method_cls I.kIn r.ga (PySem.W.cls_value I.kIn r.rd k (by decide +kernel) ?_)
  show wpAny _ _ (callWith pos (Value.builtin "ValueError.__init__") [] (backTo pos (starEach (e :: es) X.env)) []) _ _ _
  refine PyProof.Rows.callWith_method1 (thn (ha.run pos pins _ σ H _ (I.tok _) h) fun us s1 ⟨vs, H1, I1, r1, a, C, ws, ev, hl, T, ea, q⟩ => ?_) he hpl
  subst ev
  cases r1 with
  | @cons _ u0 _ ur ra rw' =>
    obtain rfl : u0 = Value.ref a := ra
    have hlen : ur.length ≤ sizeLine := by
      rw [← Paired.length rw', sizeLine_eq]
      omega
    exact oinit_ok T I1 ea hlen fun s' J => ⟨.non, H1, J, rfl, q⟩
end

/-! ### what the text says of its exception classes -/
theorem oexB_ok {K : PySem.W.Frag} {C : Addr} (h : oexB K C = true) : OexC K C := by
  obtain ⟨h1, h⟩ := Bool.and_eq_true_iff.mp h
  obtain ⟨h2, h⟩ := Bool.and_eq_true_iff.mp h
  obtain ⟨h3, h⟩ := Bool.and_eq_true_iff.mp h
  obtain ⟨h4, h5⟩ := Bool.and_eq_true_iff.mp h
  refine ⟨?_, of_decide_eq_true h2, of_decide_eq_true h3, of_decide_eq_true h4, h5⟩
  split at h1
  · rename_i dd cd sl ho
    split at h1
    · rename_i C' bm k0 k1 k2 k3 n k5 hm hs
      simp only [Bool.and_eq_true, beq_iff_eq, Bool.not_eq_true'] at h1
      obtain ⟨rfl, rfl, hdel, hdd, hre⟩ := h1
      obtain ⟨nm, bs, mro, ns, qn, hd, sn, sub, ab, col, del⟩ := cd
      dsimp only at hm hdel hdd
      subst hm hdel hdd
      have hsl : sl = #[k0, k1, k2, k3, some (.builtin "ValueError.__new__"), k5] := by
        obtain ⟨l⟩ := sl
        simp only at hs
        rw [hs]
      subst hsl
      exact ⟨nm, qn, ns, bs, bm, sn, sub, ab, col, dd, k0, k1, k2, k3, k5, ho, hre⟩
    · cases h1
  · cases h1
/-- one class by itself -/
structure ExC1 (K : PySem.W.Frag) (c : Cn) : Prop where
  cc : ExcC K (c.ad K)
  np : PySem.W.findIn K (.ref (c.ad K)) "place" = some none
  nr : PySem.W.findIn K (.ref (c.ad K)) "row" = some none
  bs : PySem.W.subIn K (.ref (c.ad K)) (.type "BaseException") = some true
  ty : PySem.W.typeIn K (.ref (c.ad K)) = some (.type "type")
  kp : PySem.W.keepIn K (.ref (c.ad K)) = true
  kv : PySem.W.kitOne K (.ref (c.ad K)) (.type "ValueError") = some true
  ex : c.ini = none → PySem.W.excIn K (c.ad K) He.veBase "ValueError.__new__" = true
  oe : c.ini ≠ none → OexC K (c.ad K) ∧ PySem.W.findIn K (.ref (c.ad K)) "__init__" = some (some (.ref (He.fAd K (c.nm, some "__init__")))) ∧ PySem.W.typeIn K (.ref (He.fAd K (c.nm, some "__init__"))) = some (.type "function")
theorem exc1B_ok {K : PySem.W.Frag} {c : Cn} (h : exc1B K c = true) : ExC1 K c := by
  unfold exc1B at h
  simp only [Bool.and_eq_true, decide_eq_true_eq] at h
  obtain ⟨⟨h1, h2, h3, h4, h5, h6, h7, h8⟩, h9, h10, h11, h12, h13, h14⟩ := h
  refine ⟨⟨h1, h2, h3, h4, h5, h6, h7, h8⟩, h9, h10, h3, h11, h12, h13, fun e => ?_, fun e => ?_⟩
  · rw [e] at h14; exact h14
  · cases q : c.ini with
    | none => exact absurd q e
    | some f =>
      rw [q] at h14
      simp only [Bool.and_eq_true, decide_eq_true_eq] at h14
      exact ⟨oexB_ok h14.1, h14.2.1, h14.2.2⟩
structure ExF (K : PySem.W.Frag) (cs : List Cn) : Prop where
  one : ∀ c ∈ cs, ExC1 K c
  kit : ∀ c ∈ cs, ∀ c' ∈ cs, PySem.W.kitOne K (.ref (c.ad K)) (.ref (c'.ad K)) = some (c.sub c')
  exm : ∀ c ∈ cs, ∀ c' ∈ cs, PySem.W.exmOne K (.ref (c.ad K)) (.ref (c'.ad K)) = some (c.sub c')
  rd : ClX.CRead K (Cn.CodeError.ad K) (.type "type")
  ci : PySem.W.findCls K (.ref (Cn.CodeError.ad K)) (.type "type") "__init__" = some (.val (.builtin "ValueError.__init__"))
theorem exfB_ok {K : PySem.W.Frag} {cs : List Cn} (h : exfB cs K = true) : ExF K cs := by
  unfold exfB at h
  simp only [Bool.and_eq_true, decide_eq_true_eq] at h
  obtain ⟨h1, h2, h3, h4, h5⟩ := h
  refine ⟨fun c hc => exc1B_ok (List.all_eq_true.mp h1 c hc), fun c hc c' hc' => ?_, fun c hc c' hc' => ?_, ⟨h3, h4⟩, ?_⟩
  · have z := List.all_eq_true.mp (List.all_eq_true.mp h2 c hc) c' hc'
    simp only [Bool.and_eq_true, decide_eq_true_eq] at z
    exact z.1
  · have z := List.all_eq_true.mp (List.all_eq_true.mp h2 c hc) c' hc'
    simp only [Bool.and_eq_true, decide_eq_true_eq] at z
    exact z.2
  · split at h5
    · rename_i v e
      rw [e, of_decide_eq_true h5]
    · cases h5

/-! ### raise -/
theorem TLe.of {K : PySem.W.Frag} {H H' : Hp} (k : ∀ b o, H b = some o → H' b = some o) : TLe K H H' := ⟨fun b vs h => by
  rcases h with (h | ⟨ob, h⟩) | h
  · exact .inl (.inl (k _ _ h))
  · exact .inl (.inr ⟨ob, k _ _ h⟩)
  · exact .inr h, fun b vs h => by
  rcases h with ⟨ob, h⟩ | h
  · exact .inl ⟨ob, k _ _ h⟩
  · exact .inr h, fun b fs h => k _ _ h, fun b φ h => k _ _ h, fun b vs ⟨ob, h, hd⟩ => ⟨ob, k _ _ h, hd⟩⟩
theorem RO.keep {K : PySem.W.Frag} {H H' : Hp} {b : Addr} {o : LO} (r : RO K H b o) (k : ∀ b o, H b = some o → H' b = some o) : RO K H' b o := by
  have t : TLe K H H' := .of k
  cases o with
  | lst xs => obtain ⟨vs, z, q⟩ := r; exact ⟨vs, k _ _ z, q.mono t⟩
  | dic xs => obtain ⟨vs, z, q⟩ := r; exact ⟨vs, k _ _ z, q.mono t⟩
  | ins c fs => obtain ⟨dx, vs, z, q⟩ := r; exact ⟨dx, vs, k _ _ z, q.mono t⟩
  | fdi f xs => exact ⟨k _ _ r.1, r.2.mono t⟩
theorem RH.keep {K : PySem.W.Frag} {H H' : Hp} {h : LH} (r : RH K H h) (k : ∀ b o, H b = some o → H' b = some o) : RH K H' h := fun a o e => (r a o e).keep k
def lRaise (c : Cn) : LTS := fun D s h => D.ex c [] s h
/-- raise C(e), C with a field of its own -/
def lRaiseF (c : Cn) (f : Fd) (la : LTE) : LTS := fun D s h => lE la s h D.ex fun x h1 => D.ex c [(f, x)] s h1
/-- the promise of such an __init__ -/
def spEI (K : PySem.W.Frag) (f : Str) : Sp := fun vs H Q _ => ∃ (a C : Addr) (v : V), vs = [.ref a, v] ∧ OexC K C ∧ PySem.W.findIn K (.ref C) f = some none ∧ H a = some (exo a C none) ∧
  ∀ d, H d = none → d ≠ a → Q .non (upd (upd H d (exd d [(f, v)])) a (exo a C (some d)))
/-- the __init__ at a place of the module -/
def EOk (P : Program) (w : World) (K : PySem.W.Frag) (mg : Str → Option Value) (base : Heap) (at_ : Str × Option Str) (ps : List Str) (f : Str) : Prop :=
  ∃ fd, FnOk P w K mg base (L2.CX P w) 1 (He.fAd K at_) fd ps (spEI K f) ∧ Binds K fd ps []
section
variable {P : Program} {w : World} {K : PySem.W.Frag} {mg : Str → Option Value} {base : Heap}
theorem init_body {x qual : Str} {params : Arguments} {body : List Stmt} {scope : Scope} {at_ : Str × Option Str} {N ps : List Str} {f : Str}
    (d : ∃ fd, FunD K x qual params body scope [] [] (He.fAd K at_) fd) (S : FnScope N ps scope) (hN : N.length = 2) (hp : ps.length = 2)
    (bd : ∀ (kV doc pm : Value) (an : Option Addr) (cdv ct : Value) (us : List Value), us.length = ps.length → bindArgs (PySem.W.fnOf x qual params body scope .none kV doc pm an cdv ct) ⟨us, []⟩ = pure (ps.zip us))
    (hb : ∀ (cdv : Value) (A : Around) (outer : List Env) (s : Shared) (H : Hp) (E : XK), Room 0 (A.deeper (envOfC qual scope s.heap.objs.size (He.fAd K at_) cdv)) →
      PSs (cxOf (L2.CX P w) P w K mg base N qual scope (He.fAd K at_) cdv A outer s H E) body (fun D σ H => (∃ (a C : Addr) (v : V), σ = [some (.ref a), some v] ∧ OexC K C ∧ PySem.W.findIn K (.ref C) f = some none ∧ H a = some (exo a C none) ∧
        ∀ d, H d = none → d ≠ a → D.nx σ (upd (upd H d (exd d [(f, v)])) a (exo a C (some d)))))) : EOk P w K mg base at_ ps f := by
  obtain ⟨fd, F⟩ := d
  refine ⟨fd, F.ok S (fun vs H Q E h => ?_) fun cdv A outer s H vs Q E hr h => ?_, F.bindsN bd⟩
  · obtain ⟨a, C, v, rfl, _⟩ := h
    rw [hp]; rfl
  · obtain ⟨a, C, v, rfl, hC, hf, ha, q⟩ := h
    refine ⟨_, hb cdv A outer s H E hr, a, C, v, ?_, hC, hf, ha, q⟩
    unfold L2.start
    rw [hN]
    rfl
end
section
variable {X : Cx} {W : WX} {e : Expr} {la : LTE} {p p2 p3 pos : Pos} {x m : Str} {c : Cn} {cs : List Cn} {j : Nat}
theorem ls_raise (hcalm : X.calm = true) (tk : Takes X W) (F : ExF X.K cs) (hcs : c ∈ cs) (hi : c.ini = none) (hm : X.mg x = some (.ref (c.ad X.K))) (hg : Gl X x := by rfl) (hdb : (x == ("__debug__" : Str)) = false := by decide) :
    LSt X W (.Raise (some (.Call (.Name x p) [.Constant (.str m) j p2] [] p3)) none pos) (lRaise c) :=
  psW (ps_raise hcalm tk (pmk_own PySem.F.excBase_ValueError ((F.one c hcs).ex hi) hm (F.one c hcs).kp (raises_own (F.one c hcs).bs (F.one c hcs).ty) hg hdb)) fun D σ H ⟨s, h, LD, rs, rh, hl, out⟩ => out.ex c [] none σ H s h (.refl H) rs rh rfl hl
theorem ls_raiseF {f : Fd} {ps : List Str} (hcalm : X.calm = true) (tk : Takes X W) (F : ExF X.K cs) (hcs : c ∈ cs) (hi : c.ini = some f) (G : EOk X.prog X.w X.K X.mg X.base (c.nm, some "__init__") ps f.nm) (hr : Room 2 X.A) (hm : X.mg x = some (.ref (c.ad X.K))) (ha : LE X W e la) (hg : Gl X x := by rfl) (hdb : (x == ("__debug__" : Str)) = false := by decide)
    (he : starEach [e] X.env = (false, eval e X.env) :: starEach [] X.env := by rfl) (hpl : (backTo p3 (starEach [] X.env)).any (·.1) = false := by rfl) :
    LSt X W (.Raise (some (.Call (.Name x p) [e] [] p3)) none pos) (lRaiseF c f la) := by
  obtain ⟨fd, G1, hb⟩ := G
  obtain ⟨O, iC, tI⟩ := (F.one c hcs).oe (by rw [hi]; exact fun z => nomatch z)
  have hnf : PySem.W.findIn X.K (.ref (c.ad X.K)) f.nm = some none := by
    cases c <;> first | (cases hi; done) | (cases hi; first | exact (F.one _ hcs).np | exact (F.one _ hcs).nr)
  have ha' : PA X [e] (tCons (upE X.K W la) tNil) := pa_cons ha pa_nil he
  refine psW (ps_raise hcalm tk (pmk_oex (dvs := []) O iC tI G1 hr hb .nil passL hg hm ha' hdb he hpl)) fun D σ H ⟨s, h, LD, rs, rh, hl, out⟩ => ?_
  refine ⟨s, h, _, _, sit_of rs rh out.ex, hl, fun v H1 y h1 t1 r1 ry q1 => ?_⟩
  refine ⟨by show 1 ≤ 1000; omega, fun a na => ?_⟩
  refine ⟨a, c.ad X.K, v, rfl, O, hnf, upd_same, fun d nd nda => ?_⟩
  have n1 : H1 d = none := by rw [upd_ne nda] at nd; exact nd
  refine ⟨rfl, d, [(f.nm, v)], upd_same, by rw [upd_ne nda]; exact upd_same, n1, ?_⟩
  have k : ∀ b o, H1 b = some o → (upd (del (upd (upd (upd H1 a (exo a (c.ad X.K) none)) d (exd d [(f.nm, v)])) a (exo a (c.ad X.K) (some d))) a) d (.xd [(f.nm, v)])) b = some o := fun b o q => by
    have b1 : b ≠ a := fun z => by rw [z, na] at q; cases q
    have b2 : b ≠ d := fun z => by rw [z, n1] at q; cases q
    rw [upd_ne b2, del_ne b1, upd_ne b1, upd_ne b2, upd_ne b1]
    exact q
  have t2 : TLe X.K H1 _ := .of k
  exact out.ex c [(f, y)] (some d) σ _ s h1 (t1.trans t2) (rs.mono (t1.trans t2)) (r1.keep k) ⟨_, upd_same, .cons (ry.mono t2) .nil⟩ q1

/-! ### try -/
def exO : List (Fd × LV) → Option (Option (Fd × Int))
  | [] => some none
  | [(f, .int k)] => some (some (f, k))
  | _ => none
def lTry (cs : List Cn) (C : Cn) (i : Nat) (lb lu : LTS) : LTS := fun D s h => lb { D with ex := fun c fs s' h' => c ∈ cs ∧ (if c.sub C = true then (match exO fs with
  | some f => lu { nx := fun s2 h2 => D.nx (s2.set i none) h2, rt := D.rt, ex := fun _ _ _ _ => False, bk := fun s2 h2 => D.bk (s2.set i none) h2, ct := fun s2 h2 => D.ct (s2.set i none) h2 } (s'.set i (some (.exc c f))) h'
  | none => False) else D.ex c fs s' h') } s h
/-- without a name -/
def lTry0 (cs : List Cn) (C : Cn) (lb lu : LTS) : LTS := fun D s h => lb { D with ex := fun c fs s' h' => c ∈ cs ∧ (if c.sub C = true then lu { D with ex := fun _ _ _ _ => False } s' h' else D.ex c fs s' h') } s h
abbrev WN : WX := fun _ _ _ _ => False
theorem takes_suite {a : Addr} {pn : List (Addr × Obj)} : Takes (X.suite a pn) WN := takes_none5
variable {n : Str} {i : Nat} {body suite : List Stmt} {b₀ : Stmt} {np pos' : Pos} {lb lu : LTS} {C : Cn}
theorem exO_ok {K : PySem.W.Frag} {H : Hp} {fs : List (Fd × LV)} {f : Option (Fd × Int)} {d : Option Addr} (r : RX K H fs d) (e : exO fs = some f) : XdA H d f := by
  cases d with
  | none =>
    have z : fs = [] := r
    subst z
    cases e
    exact rfl
  | some d =>
    obtain ⟨ws, h1, h2⟩ := r
    refine ⟨ws, h1, fun g i eg => ?_⟩
    subst eg
    unfold exO at e
    split at e
    · cases e
    · cases e
      cases h2 with
      | cons a b =>
        cases a
        rw [List.lookup_cons, show (g.nm == g.nm) = true from beq_self_eq_true _]
    · cases e
theorem XdA.keep {H H' : Hp} {f : Option (Fd × Int)} (k : ∀ b o, H b = some o → H' b = some o) : ∀ {d : Option Addr}, XdA H d f → XdA H' d f
  | none, h => h
  | some _, ⟨ws, h1, h2⟩ => ⟨ws, k _ _ h1, h2⟩
theorem ls_try (hs : X.stack = X.env :: X.outer) (hf : X.env.frame = some X.env.locals) (hex : X.ex = []) (hN : X.N.Nodup) (tk : Takes X W) (F : ExF X.K cs) (hC : C ∈ cs) (hm : X.mg x = some (.ref (C.ad X.K)))
    (hb : ∀ (W : WX) (pn : List (Addr × Obj)) (xe : Value → Shared → Prop), Takes (X.tr pn xe) W → PassesOwn (model X.prog X.w) X.A X.env xe → LSs (X.tr pn xe) W body lb)
    (hsu : ∀ (a : Addr) (pn : List (Addr × Obj)), LSs (X.suite a pn) WN (b₀ :: suite) lu) (hi : X.N[i]? = some n := by rfl) (hln : X.env.kindOf n = some .local := by rfl) (hg : Gl X x := by rfl) (hdb : (x == ("__debug__" : Str)) = false := by decide) :
    LSt X W (.Try body [.ExceptHandler (some (.Name x np)) (some n) (b₀ :: suite) pos'] [] [] pos) (lTry cs C i lb lu) :=
  psW (ps_try_tr (tb := fun W => upS X.K W lb) (ts := upS X.K WN lu) hs hf hex hN hi hln ⟨hg, hdb, .inl hm⟩ tk (fun W pn xe t p => hb W pn xe t p) fun a pn => hsu a pn) fun D σ H ⟨s, h, LD, rs, rh, hl, out⟩ =>
    ⟨s, h, _, rs, rh, hl, out.nx, out.rt, fun c fs d σ' H' s' h' t rs' rh' rx ⟨hc, q⟩ => by
      refine ⟨c.sub C, F.exm c hc C hC, fun e => ?_, fun e => ?_⟩
      · rw [if_pos e] at q
        split at q
        · rename_i f ef
          refine ⟨c.ad X.K, rfl, fun a na => ?_⟩
          have k : ∀ b o, H' b = some o → (upd H' a (exT a (c.ad X.K) d)) b = some o := fun b o z => by
            rw [upd_ne (fun y => by rw [y, na] at z; cases z)]; exact z
          have t2 : TLe X.K H' (upd H' a (exT a (c.ad X.K) d)) := .of k
          refine ⟨_, h', _, (rs'.mono t2).set (.exc ⟨d, upd_same, (exO_ok rx ef).keep k⟩) i, rh'.keep k, q, ?_⟩
          exact ⟨fun σ2 H2 s2 h2 t3 r1 r2 q2 => out.nx _ H2 _ h2 (t.trans (t2.trans t3)) (r1.clear i) r2 q2, out.rt.step (t.trans t2), fun _ _ _ _ _ _ _ _ _ _ _ z => z.elim, fun σ2 H2 s2 h2 t3 r1 r2 q2 => out.bk _ H2 _ h2 (t.trans (t2.trans t3)) (r1.clear i) r2 q2, fun σ2 H2 s2 h2 t3 r1 r2 q2 => out.ct _ H2 _ h2 (t.trans (t2.trans t3)) (r1.clear i) r2 q2⟩
        · exact q.elim
      · rw [if_neg (by rw [e]; exact Bool.false_ne_true)] at q
        exact out.ex c fs d σ' H' s' h' t rs' rh' rx q, out.bk, out.ct⟩
theorem ls_try0 (hs : X.stack = X.env :: X.outer) (hf : X.env.frame = some X.env.locals) (tk : Takes X W) (F : ExF X.K cs) (hC : C ∈ cs) (hm : X.mg x = some (.ref (C.ad X.K)))
    (hb : ∀ (W : WX) (pn : List (Addr × Obj)) (xe : Value → Shared → Prop), Takes (X.tr pn xe) W → PassesOwn (model X.prog X.w) X.A X.env xe → LSs (X.tr pn xe) W body lb)
    (hsu : ∀ (a : Addr) (pn : List (Addr × Obj)), LSs (X.suite a pn) WN (b₀ :: suite) lu) (hg : Gl X x := by rfl) (hdb : (x == ("__debug__" : Str)) = false := by decide) :
    LSt X W (.Try body [.ExceptHandler (some (.Name x np)) none (b₀ :: suite) pos'] [] [] pos) (lTry0 cs C lb lu) :=
  psW (ps_try_only (tb := fun W => upS X.K W lb) (ts := fun _ _ _ => upS X.K WN lu) hs hf ⟨hg, hdb, .inl hm⟩ tk (fun W pn xe t p => hb W pn xe t p) fun a oe cls d pn _ _ => hsu a ((a, oe) :: pn)) fun D σ H ⟨s, h, LD, rs, rh, hl, out⟩ =>
    ⟨s, h, _, rs, rh, hl, out.nx, out.rt, fun c fs d σ' H' s' h' t rs' rh' rx ⟨hc, q⟩ => by
      refine ⟨c.sub C, F.exm c hc C hC, fun e => ?_, fun e => ?_⟩
      · rw [if_pos e] at q
        intro a na
        exact ⟨_, h', _, rs', rh', q, out.nx.step t, out.rt.step t, fun _ _ _ _ _ _ _ _ _ _ _ z => z.elim, out.bk.step t, out.ct.step t⟩
      · rw [if_neg (by rw [e]; exact Bool.false_ne_true)] at q
        exact out.ex c fs d σ' H' s' h' t rs' rh' rx q, out.bk, out.ct⟩
end

/-! ### isinstance of a caught one; its field; a class as a value -/
theorem le_cl {X : Cx} {W : WX} {x : Str} {c : Cn} {pos : Pos} (hm : X.mg x = some (.ref (c.ad X.K))) (hg : Gl X x := by rfl) (hd : (x == ("__debug__" : Str)) = false := by decide) : LE X W (.Name x pos) (lC (.cl c)) := le_cst (pe_glob hg hm (v := .ref (c.ad X.K)) rfl hd) fun _ => .cl c
def cnsOf : List LV → Option (List Cn)
  | [] => some []
  | .cl c :: r => (match cnsOf r with
    | some is => some (c :: is)
    | none => none)
  | _ => none
def gIsiX (cs : List Cn) : LCR := fun xs h L => match xs with
  | [.exc c _, .cl c'] => (c ∈ cs ∧ c' ∈ cs) ∧ L (.bl (c.sub c')) h
  | [.exc c _, .ty n] => (c ∈ cs ∧ n = "ValueError") ∧ L (.bl true) h
  | [.exc c _, .tup ts] => (match cnsOf ts with
    | some bs => (c ∈ cs ∧ ∀ b ∈ bs, b ∈ cs) ∧ L (.bl (bs.any c.sub)) h
    | none => False)
  | _ => False
def rIsiX (K : PySem.W.Frag) : List V → Hp → VK → Prop := fun xs H Q => ∃ (a C : Addr) (d : Option Addr) (c : V) (cv : Value) (b : Bool), xs = [.ref a, c] ∧ ClsV c cv ∧ H a = some (exT a C d) ∧ (∀ dd, d = some dd → ∃ ws, H dd = some (.xd ws)) ∧ ExcC K C ∧ PySem.W.kitOne K (.ref C) cv = some b ∧ Q (.bl b) H
def rIsiXT (K : PySem.W.Frag) : List V → Hp → VK → Prop := fun xs H Q => ∃ (a C tp : Addr) (d : Option Addr) (cl : List V) (us : List Value) (b : Bool), xs = [.ref a, .ref tp] ∧ SqT K H tp cl ∧ Paired ClsV cl us ∧ H a = some (exT a C d) ∧ (∀ dd, d = some dd → ∃ ws, H dd = some (.xd ws)) ∧ ExcC K C ∧
  PySem.W.kitAny K (.ref C) us = some b ∧ Q (.bl b) H
section
variable {X : Cx} {pins : List (Addr × Obj)} {σ : L2.St} {H : Hp} {s : Shared} {a C : Addr} {d : Option Addr}
theorem inst_exc (I : Inv X pins σ H s) (e : H a = some (exT a C d)) (hd : ∀ dd, d = some dd → ∃ ws, H dd = some (.xd ws)) : ∃ (o : Obj) (od : Option Obj), PySem.W.InstAt s.heap a o C od := by
  obtain ⟨o, vs, h1, h2, h3, h4⟩ := exT_at I.hok e
  cases d with
  | none => exact ⟨o, none, h1, h2, by unfold PySem.W.notCls; rw [h4] <;> rfl, by rw [h3]; exact trivial⟩
  | some dd =>
    obtain ⟨ws, q⟩ := hd dd rfl
    have hx : ObjOk X.prog X.w H s.heap dd (.xd ws) := I.hok dd _ q
    obtain ⟨mA, hns, hr⟩ := hx
    obtain ⟨od, ho, hl⟩ := lookIn_ns hns
    exact ⟨o, some od, h1, h2, by unfold PySem.W.notCls; rw [h4] <;> rfl, by rw [h3]; exact ho⟩
theorem kit_exc (C1 : ExcC X.K C) {o : Obj} {od : Option Obj} : PySem.W.KitX X.K (.ref a) (.ref C) (fun h => PySem.W.InstAt h a o C od) :=
  PySem.W.kitx_exc (by
    obtain ⟨cd, hc, _⟩ := PySem.W.any_some C1.hd
    rw [hc]; rfl) C1.hg C1.hk C1.hs C1.ha C1.hn C1.ht C1.hm
theorem call_isiX : CallR X (.builtin "isinstance") (rIsiX X.K) := by
  intro pins s σ H xs us Q I r h
  obtain ⟨a, C, d, c, cv, b, rfl, hcv, e, hd, C1, ek, q⟩ := h
  cases r with
  | cons r1 r =>
    cases r with
    | cons r2 r =>
      cases r
      cases r1
      have ec := hcv.eq r2
      subst ec
      obtain ⟨o, od, J⟩ := inst_exc I e hd
      exact PySem.W.kia_one (kit_exc C1) I.kIn J ek (fun z => nomatch z) fun tk => ⟨.bl b, H, I.kept (t' := tk) fun _ _ z => z, rfl, q⟩
theorem call_isiXT : CallR X (.builtin "isinstance") (rIsiXT X.K) := by
  intro pins s σ H xs us Q I r h
  obtain ⟨a, C, tp, d, cl, ws, b, rfl, hT, k, e, hd, C1, ek, q⟩ := h
  cases r with
  | cons r1 r =>
    cases r with
    | cons r2 r =>
      cases r
      cases r1
      cases r2
      obtain ⟨oe, od, J⟩ := inst_exc I e hd
      obtain ⟨its, rv, ⟨o, h1, h2, n, h3⟩, _⟩ := I.tuple hT
      have e3 := ClsV.all k rv
      subst e3
      obtain ⟨oc, od', dt, sl⟩ := o
      simp only at h2 h3
      subst h2 h3
      exact PySem.W.kia_tup (kit_exc C1) I.kIn J h1 ek (fun z => nomatch z) fun tk => ⟨.bl b, H, I.tok tk, rfl, q⟩
theorem call_isiXX : CallR X (.builtin "isinstance") (fun vs H Q => rIsiX X.K vs H Q ∨ rIsiXT X.K vs H Q) := CallR.or call_isiX call_isiXT
end
section
variable {K : PySem.W.Frag} {cs : List Cn}
theorem cnsOf_ok {H : Hp} : ∀ {xs : List LV} {vs : List V} {is : List Cn}, RVs K H xs vs → cnsOf xs = some is → Paired ClsV vs (is.map fun c => Value.ref (c.ad K))
  | [], _, _, .nil, e => by cases e; exact .nil
  | x :: xs, _, is, .cons a b, e => by
    unfold cnsOf at e
    split at e
    · rename_i i r q
      cases q
    · rename_i i r q
      cases q
      split at e
      · rename_i is' e1
        cases e
        cases a
        exact .cons (.own _) (cnsOf_ok b e1)
      · cases e
    · cases e
theorem kitCns_ok (F : ExF K cs) {c : Cn} (hc : c ∈ cs) : ∀ {bs : List Cn}, (∀ b ∈ bs, b ∈ cs) → PySem.W.kitAny K (.ref (c.ad K)) (bs.map fun c => Value.ref (c.ad K)) = some (bs.any c.sub)
  | [], _ => rfl
  | b :: bs, h => by
    have h1 := h b List.mem_cons_self
    refine kitAny_cons (F.kit c hc b h1) (fun e => ?_) (fun e => ?_)
    · rw [List.any_cons, e, Bool.false_or]
      exact kitCns_ok F hc fun c hc => h c (List.mem_cons_of_mem _ hc)
    · rw [List.any_cons, e, Bool.true_or]
theorem ExA.dd {H : Hp} {a : Addr} {c : Cn} {f : Option (Fd × Int)} (h : ExA K H a c f) : ∃ d, H a = some (exT a (c.ad K) d) ∧ ∀ dd, d = some dd → ∃ ws, H dd = some (.xd ws) := by
  obtain ⟨d, h1, h2⟩ := h
  refine ⟨d, h1, fun dd e => ?_⟩
  subst e
  obtain ⟨ws, h3, _⟩ := h2
  exact ⟨ws, h3⟩
theorem src_isiX (F : ExF K cs) : SRC K (fun vs H Q => rIsiX K vs H Q ∨ rIsiXT K vs H Q) (gIsiX cs) := fun H h xs vs L Q rh rx g o => by
  unfold gIsiX at g
  split at g
  · cases rx with
    | cons r t =>
      cases t with
      | cons r2 t =>
        cases t
        cases r2
        cases r with
        | exc ea =>
          obtain ⟨d, h1, h2⟩ := ea.dd
          exact .inl ⟨_, _, _, _, _, _, rfl, .own _, h1, h2, (F.one _ g.1.1).cc, F.kit _ g.1.1 _ g.1.2, o _ H _ h (.refl H) rh (.bl _) g.2⟩
  · cases rx with
    | cons r t =>
      cases t with
      | cons r2 t =>
        cases t
        cases r2
        cases r with
        | exc ea =>
          obtain ⟨d, h1, h2⟩ := ea.dd
          obtain ⟨⟨hc, rfl⟩, g2⟩ := g
          exact .inl ⟨_, _, _, _, _, _, rfl, .ty _, h1, h2, (F.one _ hc).cc, (F.one _ hc).kv, o _ H _ h (.refl H) rh (.bl _) g2⟩
  · cases rx with
    | cons r t =>
      cases t with
      | cons r2 t =>
        cases t
        cases r with
        | exc ea =>
          obtain ⟨d, h1, h2⟩ := ea.dd
          cases r2 with
          | tup ht hr =>
            split at g
            · rename_i bs eb
              exact .inr ⟨_, _, _, _, _, _, _, rfl, ht, cnsOf_ok hr eb, h1, h2, (F.one _ g.1.1).cc, kitCns_ok F g.1.1 g.1.2, o _ H _ h (.refl H) rh (.bl _) g.2⟩
            · exact g.elim
  · exact g.elim
end
/-- e.f of a caught one -/
def lXf (cs : List Cn) (f : Fd) (lo : LTE) : LTE := fun s h E L => lo s h E fun x h1 => match x with
  | .exc c (some (g, i)) => (c ∈ cs ∧ g = f) ∧ L (.int i) h1
  | _ => False
def tXg (K : PySem.W.Frag) (f : Str) (te : TE) : TE := fun σ H Q => te σ H fun x H1 => ∃ (a C dd : Addr) (ws : List (Str × V)) (v : V), x = .ref a ∧ H1 a = some (exT a C (some dd)) ∧ H1 dd = some (.xd ws) ∧ ws.lookup f = some v ∧ XfC K C ∧ PySem.W.findIn K (.ref C) f = some none ∧ Q v H1
theorem pe_xg {X : Cx} {e : Expr} {te : TE} {pos : Pos} {n : Str} (he : PE X e te) (hb : attributeBase e n X.env (eval e X.env) = eval e X.env := by rfl) : PE X (.Attribute e n pos) (tXg X.K n te) := by
  refine ⟨fun pins s σ H Q I h => ?_⟩
  refine attr_of hb (thn (he.run pins s σ H _ I h) fun u s1 hh => ?_)
  obtain ⟨x, H1, I1, rx, a, C, dd, ws, v, ex, ea, ed, l, T, hno, q⟩ := hh
  subst ex
  obtain rfl : u = Value.ref a := rx
  obtain ⟨o, vs, h1, h2, h3, h4⟩ := exT_at I1.hok ea
  have hx : ObjOk X.prog X.w H1 s1.heap dd (.xd ws) := I1.hok dd _ ed
  obtain ⟨mA, hns, hr⟩ := hx
  obtain ⟨od, ho, hl⟩ := lookIn_ns hns
  obtain ⟨u, hu, ru⟩ := RelO.some_of (v := v) (o := mA n) (by rw [← l]; exact hr n)
  have J : PySem.W.InstAt s1.heap a o C (some od) := ⟨h1, h2, by unfold PySem.W.notCls; rw [h4] <;> rfl, by rw [h3]; exact ho⟩
  exact PySem.HandSPX.exc_get I1.kIn J T.ga T.gg T.exC (PySem.W.findObj_own T.hdC hno rfl (by rw [hl, hu])) (handed_of ru) ⟨v, H1, I1.tok _, ru, q⟩
theorem le_xf {X : Cx} {W : WX} {e : Expr} {lo : LTE} {pos : Pos} {m : Str} {cs : List Cn} (f : Fd) (F : ExF X.K cs) (ho : LE X W e lo) (hf : f = .place ∨ f = .row) (hm : f.nm = m := by rfl) (hb : attributeBase e m X.env (eval e X.env) = eval e X.env := by rfl) : LE X W (.Attribute e m pos) (lXf cs f lo) :=
  peW (pe_xg ho hb) fun σ H Q ⟨s, h, E, L, z, hl, out⟩ => ⟨s, h, E, _, z, hl, fun v H1 x h1 t1 r1 rx q1 => by
    split at q1
    · rename_i c g i
      obtain ⟨⟨hc, rfl⟩, q2⟩ := q1
      cases rx with
      | exc ea =>
        obtain ⟨d, e1, e2⟩ := ea
        cases d with
        | none => cases (show some (g, i) = none from e2)
        | some dd =>
          obtain ⟨ws, e3, e4⟩ := e2
          subst hm
          have C1 := (F.one c hc).cc
          refine ⟨_, _, dd, ws, .int i, rfl, e1, e3, e4 g i rfl, ⟨C1.hg, C1.hk, C1.hs, C1.hd⟩, ?_, out _ H1 _ h1 t1 r1 (.int i) q2⟩
          rcases hf with rfl | rfl
          · exact (F.one c hc).np
          · exact (F.one c hc).nr
    · exact q1.elim⟩

/-! ### walking -/
def gCat (cs : List Cn) (C : Cn) (A B : Prop) (c : Cn) : Prop := c ∈ cs ∧ if c.sub C = true then A else B
def gClr (i : Nat) (nx : LS → LH → Prop) (s : LS) (h : LH) : Prop := nx (s.set i none) h
def gCatN (cs : List Cn) (C : Cn) (i : Nat) (lu : LTS) (nx : LS → LH → Prop) (rt : LK) (bk ct : LS → LH → Prop) (B : Prop) (c : Cn) (fs : List (Fd × LV)) (s : LS) (h : LH) : Prop :=
  c ∈ cs ∧ if c.sub C = true then (match exO fs with
    | some f => lu ⟨gClr i nx, rt, fun _ _ _ _ => False, gClr i bk, gClr i ct⟩ (s.set i (some (.exc c f))) h
    | none => False) else B
def gXf (cs : List Cn) (f : Fd) : LV → LH → LK → Prop := fun x h1 L => match x with
  | .exc c (some (g, i)) => (c ∈ cs ∧ g = f) ∧ L (.int i) h1
  | _ => False
section
variable {nx bk ct : LS → LH → Prop} {rt : LK} {ex : SX} {s s2 : LS} {h : LH} {E : LX} {L : LK} {lo : LTE} {lb lu : LTS} {c c' C : Cn} {f : Fd} {g : Option (Fd × Int)} {k : Int} {cs : List Cn} {i : Nat} {x : LV} {xs : List LV} {A B : Prop} {b : Bool}
theorem i_raise (q : ex c [] s h) : lRaise c ⟨nx, rt, ex, bk, ct⟩ s h := q
instance st_i_raise  : Stp (lRaise c ⟨nx, rt, ex, bk, ct⟩ s h) (ex c [] s h) := ⟨i_raise⟩
theorem i_raiseF (q : lo s h (fun c fs h' => ex c fs s h') fun x h1 => ex c [(f, x)] s h1) : lRaiseF c f lo ⟨nx, rt, ex, bk, ct⟩ s h := q
instance st_i_raiseF  : Stp (lRaiseF c f lo ⟨nx, rt, ex, bk, ct⟩ s h) (lo s h (fun c fs h' => ex c fs s h') fun x h1 => ex c [(f, x)] s h1) := ⟨i_raiseF⟩
theorem i_try0 (q : lb ⟨nx, rt, fun c fs s' h' => gCat cs C (lu ⟨nx, rt, fun _ _ _ _ => False, bk, ct⟩ s' h') (ex c fs s' h') c, bk, ct⟩ s h) : lTry0 cs C lb lu ⟨nx, rt, ex, bk, ct⟩ s h := q
instance st_i_try0  : Stp (lTry0 cs C lb lu ⟨nx, rt, ex, bk, ct⟩ s h) (lb ⟨nx, rt, fun c fs s' h' => gCat cs C (lu ⟨nx, rt, fun _ _ _ _ => False, bk, ct⟩ s' h') (ex c fs s' h') c, bk, ct⟩ s h) := ⟨i_try0⟩
theorem i_try (q : lb ⟨nx, rt, fun c fs s' h' => gCatN cs C i lu nx rt bk ct (ex c fs s' h') c fs s' h', bk, ct⟩ s h) : lTry cs C i lb lu ⟨nx, rt, ex, bk, ct⟩ s h := q
instance st_i_try  : Stp (lTry cs C i lb lu ⟨nx, rt, ex, bk, ct⟩ s h) (lb ⟨nx, rt, fun c fs s' h' => gCatN cs C i lu nx rt bk ct (ex c fs s' h') c fs s' h', bk, ct⟩ s h) := ⟨i_try⟩
theorem i_cat (hc : c ∈ cs) (hs : c.sub C = true) (q : A) : gCat cs C A B c := ⟨hc, by rw [if_pos hs]; exact q⟩
theorem i_catN0 (hc : c ∈ cs) (hs : c.sub C = true) (e : s.set i (some (.exc c none)) = s2) (q : lu ⟨gClr i nx, rt, fun _ _ _ _ => False, gClr i bk, gClr i ct⟩ s2 h) : gCatN cs C i lu nx rt bk ct B c [] s h := ⟨hc, by rw [if_pos hs]; subst e; exact q⟩
theorem i_catN1 (hc : c ∈ cs) (hs : c.sub C = true) (e : s.set i (some (.exc c (some (f, k)))) = s2) (q : lu ⟨gClr i nx, rt, fun _ _ _ _ => False, gClr i bk, gClr i ct⟩ s2 h) : gCatN cs C i lu nx rt bk ct B c [(f, .int k)] s h := ⟨hc, by rw [if_pos hs]; subst e; exact q⟩
theorem i_clr (e : s.set i none = s2) (q : nx s2 h) : gClr i nx s h := by subst e; exact q
theorem i_isx1 (hc : c ∈ cs) (hc' : c' ∈ cs) (e : c.sub c' = b) (q : L (.bl b) h) : gIsiX cs [.exc c g, .cl c'] h L := ⟨⟨hc, hc'⟩, by rw [e]; exact q⟩
theorem i_isxV (hc : c ∈ cs) (q : L (.bl true) h) : gIsiX cs [.exc c g, .ty "ValueError"] h L := ⟨⟨hc, rfl⟩, q⟩
theorem i_isxT {bs : List Cn} (e : cnsOf xs = some bs) (hc : c ∈ cs) (hb : ∀ b ∈ bs, b ∈ cs) (eb : bs.any c.sub = b) (q : L (.bl b) h) : gIsiX cs [.exc c g, .tup xs] h L := by
  unfold gIsiX
  dsimp only
  rw [e]
  exact ⟨⟨hc, hb⟩, by rw [eb]; exact q⟩
theorem i_xf (q : lo s h E fun x h1 => gXf cs f x h1 L) : lXf cs f lo s h E L := q
instance st_i_xf  : Stp (lXf cs f lo s h E L) (lo s h E fun x h1 => gXf cs f x h1 L) := ⟨i_xf⟩
theorem i_xfG (hc : c ∈ cs) (q : L (.int k) h) : gXf cs f (.exc c (some (f, k))) h L := ⟨⟨hc, rfl⟩, q⟩
end


/-! ### xs.count(y), xs.index(y) of flat items, computed -/
def rCntV (K : PySem.W.Frag) : V → List V → Hp → VK → Prop := fun x xs H Q => ∃ (p : Addr) (ys : List V) (y : V), x = .ref p ∧ xs = [y] ∧ SqL K H p ys ∧ flatV y = true ∧ ys.all flatV = true ∧ Q (.int (ys.countP (fun z => eqV z y) : Nat)) H
theorem count_eqU {x : V} : ∀ {xs : List V} {us : List Value}, Vals xs us → xs.all flatV = true → us.countP (eqU x) = xs.countP fun y => eqV y x
  | _, _, .nil, _ => rfl
  | y :: xs, u :: us, .cons r t, f => by
    rw [List.all_cons, Bool.and_eq_true] at f
    rw [List.countP_cons, List.countP_cons, eqU_of r f.1, count_eqU t f.2]
theorem mt_cntV {X : Cx} : MtR X "list.count" (rCntV X.K) := by
  intro pins s σ H x xs v us Q I rx rxs h
  obtain ⟨p, ys, y, rfl, rfl, hs, fy, fs, q⟩ := h
  cases rx
  obtain ⟨u, rfl, ru⟩ := rxs.one
  obtain ⟨its, rv, ⟨⟨cls, dd, data, sl⟩, n, ho, hc, hdn, hd⟩, hlen⟩ := I.list hs
  simp only at hc hd
  subst hc hd
  refine call_meets PySem.F.slot_list_count ⟨_, ho, rfl⟩ PySem.F.entry_list_count (PySem.F.args_list_count_2 _ _)
    (SeqAt.list_countAt p its.toArray n dd sl u (eqU y)) ⟨ho, fun w hw => mem_eqAt ru fy rv fs w (by simpa using hw), ?_⟩
  have ec : its.toArray.toList.countP (eqU y) = ys.countP fun z => eqV z y := count_eqU rv fs
  refine ⟨.int (ys.countP (fun z => eqV z y) : Nat), H, I.tok _, ⟨s.toks, ?_⟩, q⟩
  show Value.int ((its.toArray.toList.countP (eqU y) : Nat) : Int) s.toks = Value.int ((ys.countP (fun z => eqV z y) : Nat) : Int) s.toks
  rw [ec]
def gCount : LMR := fun x xs h L => match xs with
  | [y] => (match lstOf h x, lfl y with
    | some ys, some w => (match lfls ys with
      | some ws => L (.int (ws.countP (fun z => eqV z w) : Nat)) h
      | none => False)
    | _, _ => False)
  | _ => False
theorem srm_count {K : PySem.W.Frag} : SRM K (rCntV K) gCount := fun H h x xs v vs L Q rh rx rxs g o => by
  unfold gCount at g
  split at g
  · rename_i y
    cases rxs with
    | cons r1 t =>
      cases t
      split at g
      · rename_i ys w e1 e2
        split at g
        · rename_i ws e3
          obtain ⟨p, us, rfl, hs, hr⟩ := lstOf_ok rh rx e1
          obtain ⟨rfl, f1⟩ := lfl_ok r1 e2
          obtain ⟨rfl, f2⟩ := lfls_ok hr e3
          exact ⟨p, _, _, rfl, rfl, hs, f1, f2, o _ H _ h (.refl H) rh (.int _) g⟩
        · exact g.elim
      · exact g.elim
  · exact g.elim
def firstV (w : V) : List V → Option Nat
  | [] => none
  | z :: r => if eqV z w = true then some 0 else (firstV w r).map (· + 1)
theorem firstV_ok {w : V} : ∀ {ws : List V} {j : Nat}, firstV w ws = some j → ∃ z, ws[j]? = some z ∧ eqV z w = true ∧ ∀ m z', m < j → ws[m]? = some z' → eqV z' w = false
  | [], _, e => by cases e
  | z :: r, j, e => by
    unfold firstV at e
    by_cases q : eqV z w = true
    · rw [if_pos q] at e
      cases e
      exact ⟨z, rfl, q, fun m z' hm => absurd hm (Nat.not_lt_zero _)⟩
    · rw [if_neg q] at e
      obtain ⟨i, e1, rfl⟩ := Option.map_eq_some_iff.mp e
      obtain ⟨y, h1, h2, h3⟩ := firstV_ok e1
      refine ⟨y, by simpa using h1, h2, fun m z' hm hz => ?_⟩
      cases m with
      | zero =>
        have : z = z' := by simpa using hz
        subst this
        exact Bool.eq_false_iff.mpr q
      | succ m => exact h3 m z' (by omega) (by simpa using hz)
section
variable {h : LH} {L : LK} {a : Addr} {xs : List LV} {y : LV} {w : V} {ws : List V} {n j : Nat}
theorem i_cnt1 {i : Int} (e : h a = some (.lst xs)) (ey : lfl y = some w) (ex : lfls xs = some ws) (en : ((ws.countP (fun z => eqV z w) : Nat) : Int) = i) (q : L (.int i) h) : gCount (.ref a) [y] h L := by
  unfold gCount lstOf
  dsimp only
  rw [e, ey]
  dsimp only
  rw [ex]
  dsimp only
  rw [en]
  exact q
theorem i_idx1 {i : Int} (e : h a = some (.lst xs)) (ey : lfl y = some w) (ex : lfls xs = some ws) (en : Option.map (fun (j : Nat) => (j : Int)) (firstV w ws) = some i) (q : L (.int i) h) : gIndex (.ref a) [y] h L := by
  unfold gIndex lstOf
  dsimp only
  rw [e, ey]
  dsimp only
  rw [ex]
  dsimp only
  obtain ⟨j, e1, e2⟩ := Option.map_eq_some_iff.mp en
  obtain ⟨z, h1, h2, h3⟩ := firstV_ok e1
  exact ⟨j, z, h1, h2, h3, by rw [e2]; exact q⟩
end
/-- the end of an own __init__ that calls CodeError.__init__ and stores its field -/
theorem init_fin {K : PySem.W.Frag} {D : Ends} {σ : L2.St} {H : Hp} {f m : Str}
    (z : ∃ (a C : Addr) (v : V), σ = [some (.ref a), some v] ∧ OexC K C ∧ PySem.W.findIn K (.ref C) f = some none ∧ H a = some (exo a C none) ∧ ∀ d, H d = none → d ≠ a → D.nx σ (upd (upd H d (exd d [(f, v)])) a (exo a C (some d)))) :
    tSeq (tDrop (tVeI K (tCons (tVar 0) (tCons (tC (.str m)) tNil)))) (tOst K f (tVar 0) (tVar 1)) D σ H := by
  obtain ⟨a, C, v, rfl, hC, hf, ha, q⟩ := z
  exact ⟨.ref a, rfl, a, C, [.str m], rfl, by show 1 ≤ 1000; omega, hC, ha, v, rfl, .ref a, rfl, a, C, rfl, hC, hf, .inl ⟨ha, q⟩⟩
end VL

set_option Elab.async false
set_option linter.all false
set_option maxRecDepth 100000
set_option maxHeartbeats 4000000
/-! a door that learns, with refusals -/
namespace VL
open PySem PySem.Spec PyProof.Rows L2
/-- a press as a value -/
abbrev prs (z : Str) (age : Int) (code : List Int) : LV := .tup [.str z, .int age, .tup (code.map .int)]
/-- what a press tells a door -/
def readD (D : Dm) (z : Str) (age : Int) (code : List Int) : Option (Int × Int) := if D.takes age then readF D.tab (D.keys.getD age.toNat []) z code else none
inductive LR where
  | bad (i : Int) | known | full | ok (D : Dm)
def learnR (D : Dm) (z1 : Str) (a1 : Int) (c1 : List Int) (z2 : Str) (a2 : Int) (c2 : List Int) : LR := match readD D z1 a1 c1 with
  | none => .bad 0
  | some p => match readD D z2 a2 c2 with
    | none => .bad 1
    | some q => if (z1 = z2 ∧ a1 = a2) ∧ q.1 = p.1 + 1 then (match eget D.es z1 with
        | some _ => .known
        | none => if D.most ≤ D.es.length then .full else .ok { D with es := eput D.es z1 ⟨a1, q.1, none⟩ }) else .bad 1
/-- the word and the place that are told of it -/
def LR.word : LR → Str
  | .bad _ => "press" | .known => "known" | .full => "full" | .ok _ => ""
def LR.place : LR → Int
  | .bad i => i
  | _ => 0
def LR.door (D : Dm) : LR → Dm
  | .ok D2 => D2
  | _ => D
/-! ### == of plain values -/
theorem pq_eqv {h : LH} : ∀ {n : Nat} {x y : LV} {d e : PyData}, Pq n x → Pq n y → toD h n x = some d → toD h n y = some e → (PyData.eqv d e = true ↔ x = y)
  | _, _, _, _, _, .non, py, e1, e2 => by
    cases e1
    cases py with
    | non => cases e2; exact ⟨fun _ => rfl, fun _ => rfl⟩
    | int => cases e2; exact ⟨fun z => (by cases z), fun z => (by cases z)⟩
    | str _ => cases e2; exact ⟨fun z => (by cases z), fun z => (by cases z)⟩
    | tup hy =>
      unfold toD at e2
      dsimp only at e2
      split at e2
      · cases e2; exact ⟨fun z => (by cases z), fun z => (by cases z)⟩
      · cases e2
  | _, _, _, _, _, .int, py, e1, e2 => by
    cases e1
    cases py with
    | non => cases e2; exact ⟨fun z => (by cases z), fun z => (by cases z)⟩
    | int => cases e2; exact ⟨fun z => (by rw [eq_of_beq z]), fun z => by cases z; exact beq_self_eq_true _⟩
    | str _ => cases e2; exact ⟨fun z => (by cases z), fun z => (by cases z)⟩
    | tup hy =>
      unfold toD at e2
      dsimp only at e2
      split at e2
      · cases e2; exact ⟨fun z => (by cases z), fun z => (by cases z)⟩
      · cases e2
  | _, _, _, _, _, .str _, py, e1, e2 => by
    cases e1
    cases py with
    | non => cases e2; exact ⟨fun z => (by cases z), fun z => (by cases z)⟩
    | int => cases e2; exact ⟨fun z => (by cases z), fun z => (by cases z)⟩
    | str _ => cases e2; exact ⟨fun z => (by rw [eq_of_beq z]), fun z => by cases z; exact beq_self_eq_true _⟩
    | tup hy =>
      unfold toD at e2
      dsimp only at e2
      split at e2
      · cases e2; exact ⟨fun z => (by cases z), fun z => (by cases z)⟩
      · cases e2
  | n + 1, .tup xs, y, d, e, .tup hx, py, e1, e2 => by
    have e1' : (match allD (toD h n) xs with
      | some ds => some (PyData.tuple ds)
      | none => none) = some d := e1
    split at e1'
    · rename_i ds q1
      cases e1'
      cases py with
      | non => cases e2; exact ⟨fun z => (by cases z), fun z => (by cases z)⟩
      | int => cases e2; exact ⟨fun z => (by cases z), fun z => (by cases z)⟩
      | str _ => cases e2; exact ⟨fun z => (by cases z), fun z => (by cases z)⟩
      | @tup _ ys hy =>
        have e2' : (match allD (toD h n) ys with
          | some ds => some (PyData.tuple ds)
          | none => none) = some e := e2
        split at e2'
        · rename_i es q2
          cases e2'
          have key : ∀ (xs ys : List LV) (ds es : List PyData), (∀ x ∈ xs, Pq n x) → (∀ y ∈ ys, Pq n y) → allD (toD h n) xs = some ds → allD (toD h n) ys = some es → (PyData.eqvAll ds es = true ↔ xs = ys) := by
            intro xs
            induction xs with
            | nil =>
              intro ys ds es _ _ q1 q2
              cases q1
              cases ys with
              | nil => cases q2; exact ⟨fun _ => rfl, fun _ => rfl⟩
              | cons y ys =>
                unfold allD at q2
                split at q2
                · cases q2; exact ⟨fun z => (by cases z), fun z => (by cases z)⟩
                · cases q2
            | cons x xs ih =>
              intro ys ds es h1 h2 q1 q2
              unfold allD at q1
              split at q1
              · rename_i d ds' r1 r2
                cases q1
                cases ys with
                | nil => cases q2; exact ⟨fun z => (by cases z), fun z => (by cases z)⟩
                | cons y ys =>
                  unfold allD at q2
                  split at q2
                  · rename_i e es' r3 r4
                    cases q2
                    have a := pq_eqv (h1 x List.mem_cons_self) (h2 y List.mem_cons_self) r1 r3
                    have b := ih ys ds' es' (fun z hz => h1 z (List.mem_cons_of_mem _ hz)) (fun z hz => h2 z (List.mem_cons_of_mem _ hz)) r2 r4
                    unfold PyData.eqvAll
                    rw [Bool.and_eq_true, a, b]
                    exact ⟨fun ⟨u, v⟩ => (by rw [u, v]), fun z => by cases z; exact ⟨rfl, rfl⟩⟩
                  · cases q2
              · cases q1
          have k := key xs ys ds es hx hy q1 q2
          unfold PyData.eqv
          rw [k]
          exact ⟨fun z => (by rw [z]), fun z => by cases z; rfl⟩
        · cases e2'
    · cases e1'
theorem Pq.shaped {h : LH} {x : LV} (p : Pq 8 x) : ∃ d, toD h 8 x = some d ∧ SeqAt.shaped d = true := by
  obtain ⟨d, e1, e2, e3⟩ := p.dat (h := h)
  refine ⟨d, e1, ?_⟩
  unfold SeqAt.shaped
  rw [e2]
  simp
  omega
theorem i_eq_pq {F : Bool → Bool} {x y : LV} {h : LH} {L : LK} (px : Pq 8 x) (py : Pq 8 y) (hT : x = y → L (.bl (F true)) h) (hF : x ≠ y → L (.bl (F false)) h) : gEqW F x y h L := by
  obtain ⟨d, e1, s1⟩ := px.shaped (h := h)
  obtain ⟨e, e2, s2⟩ := py.shaped (h := h)
  have k := pq_eqv px py e1 e2
  have main : L (.bl (F (PyData.eqv d e))) h := by
    by_cases hxy : x = y
    · rw [k.mpr hxy]; exact hT hxy
    · have z : PyData.eqv d e = false := Bool.eq_false_iff.mpr fun z => hxy (k.mp z)
      rw [z]; exact hF hxy
  cases px with
  | non =>
    cases py with
    | non => exact hT rfl
    | int => exact i_eqD e1 e2 s1 s2 main
    | str _ => exact i_eqD e1 e2 s1 s2 main
    | tup _ =>
      refine i_eqD e1 e2 s1 s2 main
  | int =>
    cases py with
    | int =>
      rename_i i j
      cases e1; cases e2
      have z : decide (i = j) = PyData.eqv (.int i) (.int j) := by
        show _ = (i == j)
        by_cases q : i = j
        · rw [q]; simp
        · simp [q]
      show L (.bl (F (decide (i = j)))) h
      rw [z]; exact main
    | non => exact i_eqD e1 e2 s1 s2 main
    | str _ => exact i_eqD e1 e2 s1 s2 main
    | tup _ => exact i_eqD e1 e2 s1 s2 main
  | str _ =>
    cases py with
    | str _ =>
      rename_i i _ j _
      cases e1; cases e2
      have z : decide (i = j) = PyData.eqv (.str i) (.str j) := by
        show _ = (i == j)
        by_cases q : i = j
        · rw [q]; simp
        · simp [q]
      show L (.bl (F (decide (i = j)))) h
      rw [z]; exact main
    | non => exact i_eqD e1 e2 s1 s2 main
    | int => exact i_eqD e1 e2 s1 s2 main
    | tup _ => exact i_eqD e1 e2 s1 s2 main
  | tup _ =>
    cases py with
    | tup _ => exact i_eqD e1 e2 s1 s2 main
    | non => exact i_eqD e1 e2 s1 s2 main
    | int => exact i_eqD e1 e2 s1 s2 main
    | str _ => exact i_eqD e1 e2 s1 s2 main
theorem Pq.nm {n : Nat} {z : Str} (h : Nm z) : Pq (n + 1) (.str z) := .str h.low.ok

/-! ### heads of goals, for the walk's words -/
class G1 (P : Prop) : Prop where go : P → P
class G2 (P : Prop) : Prop where go : P → P
class G3 (P : Prop) : Prop where go : P → P
class G4 (P : Prop) : Prop where go : P → P
section
variable {x y z : LV} {xs : List LV} {h : LH} {L : LK} {A B : Prop} {F : Bool → Bool} {c : Cn} {f : Fd} {LP : LH → Prop} {s : LS} {E : LX} {n : Nat} {SE : SX} {LN : LS → LH → Prop} {gs : LTGs} {o : LO}
instance {p : Prop} [Decidable p] : G1 (if p then A else B) := ⟨id⟩
instance : G1 (gChn x A B) := ⟨id⟩
instance : G2 (gEqW F x y h L) := ⟨id⟩
instance : G2 (gIs F x y h L) := ⟨id⟩
instance : G3 (gIx x y h L) := ⟨id⟩
instance : G3 (gIn F x y h L) := ⟨id⟩
instance : G3 (gLen xs h L) := ⟨id⟩
instance : G3 (gAdd x y h L) := ⟨id⟩
instance : G3 (gMul x y h L) := ⟨id⟩
instance {P : Int → Int → Prop} {F : Int → Int → Int} : G3 (gIntC P F x y h L) := ⟨id⟩
instance {a b : Option Int} : G3 (gSl x a b h L) := ⟨id⟩
instance : G3 (lgTup n gs x s h SE LN) := ⟨id⟩
instance : G3 (gSet x y z h LP) := ⟨id⟩
instance : G3 (cNew o L h) := ⟨id⟩
instance : G4 (A ∧ B) := ⟨id⟩
instance : G4 (gFld c f x h L) := ⟨id⟩
instance : G4 (gFldS c f x y h LP) := ⟨id⟩
instance {lv : LTE} : G4 (gFldA c f lv s E x h LP) := ⟨id⟩
instance {a : Addr} {i : Int} : G4 (gFldB c f a i x h LP) := ⟨id⟩
instance : G4 (gMth c x h A) := ⟨id⟩
instance : G4 (gAppend x xs h L) := ⟨id⟩
instance : G4 (gExtend x xs h L) := ⟨id⟩
instance : G4 (gReverse x xs h L) := ⟨id⟩
instance : G4 (gClear x xs h L) := ⟨id⟩
end
end VL

set_option Elab.async false
set_option linter.all false
set_option maxRecDepth 100000
set_option maxHeartbeats 4000000
/-! what learning keeps -/
namespace VL
open PySem PySem.Spec PyProof.Rows L2
theorem readF_range {tab key : List Int} {z : Str} {code : List Int} {c d : Int} (hl : code.length = 5) (hd : Digs code) (e : readF tab key z code = some (c, d)) : (0 ≤ c ∧ c < 4096) ∧ 0 ≤ d ∧ d < 16 := by
  unfold readF at e
  dsimp only at e
  have dl : (decodedF tab (keyF tab key z) code).length = 5 := by rw [decodedF_length, hl]
  have dg : Digs (decodedF tab (keyF tab key z) code) := decodedF_digs hd
  generalize decodedF tab (keyF tab key z) code = m at dl dg e
  have g : ∀ i : Nat, i < 5 → 0 ≤ gI m i ∧ gI m i < 16 := fun i hi => dg _ (gI_mem (by omega) (by rw [dl]; omega) (by omega))
  have g0 := g 0 (by omega); have g1 := g 1 (by omega); have g2 := g 2 (by omega); have g3 := g 3 (by omega)
  split at e
  · cases e
    simp only [Int.natCast_zero, Int.natCast_one, Int.cast_ofNat_Int] at g0 g1 g2 g3
    omega
  · cases e
theorem readD_range {D : Dm} {z : Str} {age c d : Int} {code : List Int} (hl : code.length = 5) (hd : Digs code) (e : readD D z age code = some (c, d)) : D.takes age ∧ (0 ≤ c ∧ c < 4096) ∧ 0 ≤ d ∧ d < 16 := by
  unfold readD at e
  split at e
  · rename_i t
    exact ⟨t, readF_range hl hd e⟩
  · cases e
theorem LR.low (r : LR) : Low r.word := by
  cases r with
  | bad i => exact ⟨(by decide : ("press" : Str).length ≤ 1000), (by decide : ∀ c ∈ ("press" : Str).cps.toList, 97 ≤ c ∧ c < 123)⟩
  | known => exact ⟨(by decide : ("known" : Str).length ≤ 1000), (by decide : ∀ c ∈ ("known" : Str).cps.toList, 97 ≤ c ∧ c < 123)⟩
  | full => exact ⟨(by decide : ("full" : Str).length ≤ 1000), (by decide : ∀ c ∈ ("full" : Str).cps.toList, 97 ≤ c ∧ c < 123)⟩
  | ok D => exact ⟨(by decide : ("" : Str).length ≤ 1000), (by decide : ∀ c ∈ ("" : Str).cps.toList, 97 ≤ c ∧ c < 123)⟩
theorem learn_is {D D2 : Dm} {z1 z2 : Str} {a1 a2 : Int} {c1 c2 : List Int} (hl1 : c1.length = 5) (hd1 : Digs c1) (hl2 : c2.length = 5) (hd2 : Digs c2) (e : learnR D z1 a1 c1 z2 a2 c2 = .ok D2) :
    z1 = z2 ∧ a1 = a2 ∧ D.takes a1 ∧ eget D.es z1 = none ∧ (D.es.length : Int) < D.most ∧ ∃ n, 1 ≤ n ∧ n ≤ 4095 ∧ D2 = { D with es := eput D.es z1 ⟨a1, n, none⟩ } := by
  unfold learnR at e
  cases e1 : readD D z1 a1 c1 with
  | none => rw [e1] at e; cases e
  | some p =>
    rw [e1] at e
    dsimp only at e
    cases e2 : readD D z2 a2 c2 with
    | none => rw [e2] at e; cases e
    | some q =>
      rw [e2] at e
      dsimp only at e
      split at e
      · rename_i hc
        cases e3 : eget D.es z1 with
        | some _ => rw [e3] at e; cases e
        | none =>
          rw [e3] at e
          dsimp only at e
          split at e
          · cases e
          · rename_i hm
            cases e
            obtain ⟨p1, p2⟩ := p
            obtain ⟨q1, q2⟩ := q
            have r1 := readD_range hl1 hd1 e1
            have r2 := readD_range hl2 hd2 e2
            have h3 : q1 = p1 + 1 := hc.2
            exact ⟨hc.1.1, hc.1.2, r1.1, rfl, by omega, q1, by omega, by omega, rfl⟩
      · cases e
theorem learn_ok {D : Dm} (k : D.ok) {z1 z2 : Str} {a1 a2 : Int} {c1 c2 : List Int} (hz : Nm z1) (hl1 : c1.length = 5) (hd1 : Digs c1) (hl2 : c2.length = 5) (hd2 : Digs c2) : ((learnR D z1 a1 c1 z2 a2 c2).door D).ok := by
  cases e : learnR D z1 a1 c1 z2 a2 c2 with
  | ok D2 =>
    obtain ⟨h1, h2, h3, h4, h5, n, h6, h7, rfl⟩ := learn_is hl1 hd1 hl2 hd2 e
    have el : (eput D.es z1 ⟨a1, n, none⟩).length ≤ D.es.length + 1 := eput_length
    have m2 := k.m2
    have c0 := k.c0
    exact put_ok k hz (by omega) ⟨by show 0 ≤ a1; have := h3.1; omega, h3.2, by show 0 ≤ n; omega, h7⟩ (fun q hq => by cases hq)
  | _ => exact k
theorem learn_keep {D : Dm} {z1 z2 : Str} {a1 a2 : Int} {c1 c2 : List Int} : ((learnR D z1 a1 c1 z2 a2 c2).door D).tab = D.tab ∧ ((learnR D z1 a1 c1 z2 a2 c2).door D).keys = D.keys ∧ ((learnR D z1 a1 c1 z2 a2 c2).door D).near = D.near ∧ ((learnR D z1 a1 c1 z2 a2 c2).door D).far = D.far ∧ ((learnR D z1 a1 c1 z2 a2 c2).door D).most = D.most ∧ ((learnR D z1 a1 c1 z2 a2 c2).door D).closed = D.closed := by
  unfold learnR
  repeat' split
  all_goals exact ⟨rfl, rfl, rfl, rfl, rfl, rfl⟩
theorem readD_code {D : Dm} {z : Str} {age count d : Int} (k : D.ok) (ht : D.takes age) (h0 : 0 ≤ count) (h1 : count < 4096) (d0 : 0 ≤ d) (d1 : d < 16) : readD D z age (codeF D.tab (D.keys.getD age.toNat []) z count d) = some (count, d) := by
  unfold readD
  rw [if_pos ht, read_code k.tab h0 h1 d0 d1]
theorem learn_codes {D : Dm} {z : Str} {age count d1 d2 : Int} (k : D.ok) (ht : D.takes age) (h0 : 0 ≤ count) (h1 : count + 1 < 4096) (a0 : 0 ≤ d1) (a1 : d1 < 16) (b0 : 0 ≤ d2) (b1 : d2 < 16) :
    learnR D z age (codeF D.tab (D.keys.getD age.toNat []) z count d1) z age (codeF D.tab (D.keys.getD age.toNat []) z (count + 1) d2) = (match eget D.es z with
      | some _ => .known
      | none => if D.most ≤ D.es.length then .full else .ok { D with es := eput D.es z ⟨age, count + 1, none⟩ }) := by
  unfold learnR
  rw [readD_code k ht h0 (by omega) a0 a1, readD_code k ht (by omega) h1 b0 b1]
  dsimp only
  rw [if_pos ⟨⟨rfl, rfl⟩, rfl⟩]
  all_goals (cases eget D.es z <;> rfl)
end VL

set_option Elab.async false
set_option linter.all false
set_option maxRecDepth 100000
set_option maxHeartbeats 4000000
/-! while; things that may be presses -/
namespace VL
open PySem PySem.Spec PyProof.Rows L2
/-! ### while -/
def lWhile (lc : LTT) (lb : LTS) : LTS := fun D s h => ∃ P : Nat → LS → LH → Prop, (∃ m, P m s h) ∧ ∀ m s h, P m s h → lc s h (fun c fs h' => D.ex c fs s h') fun b h1 =>
  if b = true then lb { D with nx := fun s' h' => ∃ m', m' < m ∧ P m' s' h', ct := fun s' h' => ∃ m', m' < m ∧ P m' s' h', bk := D.nx } s h1 else D.nx s h1
theorem ls_while {X : Cx} {W : WX} {c : Expr} {body : List Stmt} {lc : LTT} {lb : LTS} {pos : Pos} (hp : PassesOwn (model X.prog X.w) X.A X.env X.xe) (hc : LT X W c lc) (hb : LSs X W body lb) : LSt X W (.While c body [] pos) (lWhile lc lb) :=
  psW (ps_while hp hc hb) fun D σ H ⟨s, h, LD, rs, rh, ⟨P, ⟨m0, p0⟩, turn⟩, out⟩ =>
    ⟨fun m σ' H' => ∃ s' h', TLe X.K H H' ∧ RS X.K H' s' σ' ∧ RH X.K H' h' ∧ P m s' h', ⟨m0, s, h, .refl H, rs, rh, p0⟩, fun m σ1 H1 ⟨s1, h1, t1, rs1, rh1, p1⟩ =>
      ⟨s1, h1, _, _, sit_of rs1 rh1 (out.ex.step t1), turn m s1 h1 p1, fun b H2 h2 t2 rh2 q => by
        cases b with
        | true =>
          refine ⟨fun σ' H' => ∃ s' h', TLe X.K H H' ∧ RS X.K H' s' σ' ∧ RH X.K H' h' ∧ ∃ m', m' < m ∧ P m' s' h', fun σ' H' ⟨s', h', t, r1, r2, m', hm, p⟩ => ⟨m', hm, s', h', t, r1, r2, p⟩, ?_⟩
          refine ⟨s1, h2, _, rs1.mono t2, rh2, q, ?_⟩
          exact ⟨fun σ' H' s' h' t r1 r2 q2 => ⟨s', h', (t1.trans t2).trans t, r1, r2, q2⟩, out.rt.step (t1.trans t2), out.ex.step (t1.trans t2), out.nx.step (t1.trans t2), fun σ' H' s' h' t r1 r2 q2 => ⟨s', h', (t1.trans t2).trans t, r1, r2, q2⟩⟩
        | false => exact out.nx σ1 H2 s1 h2 (t1.trans t2) (rs1.mono t2) rh2 q⟩⟩
theorem s_while {nx bk ct : LS → LH → Prop} {rt : LK} {ex : SX} {s : LS} {h : LH} {lc : LTT} {lb : LTS} (P : Nat → LS → LH → Prop) (m : Nat) (p0 : P m s h)
    (step : ∀ m s h, P m s h → lc s h (fun c fs h' => ex c fs s h') fun b h1 => if b = true then lb ⟨fun s' h' => ∃ m', m' < m ∧ P m' s' h', rt, ex, nx, fun s' h' => ∃ m', m' < m ∧ P m' s' h'⟩ s h1 else nx s h1) : lWhile lc lb ⟨nx, rt, ex, bk, ct⟩ s h := ⟨P, ⟨m, p0⟩, step⟩

/-! ### things -/
/-- its kinds are told, three deep -/
structure Tg (h : LH) (x : LV) : Prop where
  t : Told h x
  s : ∀ z, x = .str z → z.length ≤ 1000
  u : ∀ xs, x = .tup xs → xs.length ≤ 1000 ∧ ∀ y ∈ xs, Told h y ∧ (∀ z, y = .str z → z.length ≤ 1000) ∧ ∀ ys, y = .tup ys → ys.length ≤ 1000 ∧ ∀ z ∈ ys, Told h z
theorem Tg.sub {h h' : LH} {x : LV} (k : ∀ a o, h a = some o → h' a = some o) (t : Tg h x) : Tg h' x :=
  ⟨t.t.sub k, t.s, fun xs e => ⟨(t.u xs e).1, fun y hy => ⟨((t.u xs e).2 y hy).1.sub k, ((t.u xs e).2 y hy).2.1, fun ys e2 => ⟨(((t.u xs e).2 y hy).2.2 ys e2).1, fun z hz => ((((t.u xs e).2 y hy).2.2 ys e2).2 z hz).sub k⟩⟩⟩⟩
/-- all these are told of -/
def thgs (ts : List LV) : HP := fun h => ∀ x ∈ ts, Tg h x
def isNm (z : Str) : Bool := decide (1 ≤ z.length) && (decide (z.length ≤ 8) && z.cps.toList.all fun c => decide (97 ≤ c) && decide (c < 123))
theorem isNm_iff {z : Str} : isNm z = true ↔ Nm z := by
  unfold isNm
  simp only [Bool.and_eq_true, decide_eq_true_eq, List.all_eq_true]
  exact ⟨fun ⟨a, b, c⟩ => ⟨⟨by omega, c⟩, a, b⟩, fun n => ⟨n.l1, n.l8, n.low.2⟩⟩
def intsV : List LV → List Int
  | .int i :: r => i :: intsV r
  | _ => []
def isCodeV : LV → Bool
  | .tup cs => decide (cs.length = 5) && cs.all isDig
  | _ => false
def isNameV : LV → Bool
  | .str z => isNm z
  | _ => false
def isWholeV : LV → Bool
  | .int _ => true
  | _ => false
def isPrs : LV → Bool
  | .tup [x, y, z] => isNameV x && (isWholeV y && isCodeV z)
  | _ => false
/-- the parts of a press -/
def pressOf : LV → Option (Str × Int × List Int)
  | .tup [.str z, .int a, .tup cs] => if isPrs (.tup [.str z, .int a, .tup cs]) = true then some (z, a, intsV cs) else none
  | _ => none
theorem digs_map : ∀ {cs : List LV}, cs.all isDig = true → cs = (intsV cs).map .int ∧ Digs (intsV cs)
  | [], _ => ⟨rfl, fun x hx => absurd hx List.not_mem_nil⟩
  | x :: r, h => by
    rw [List.all_cons, Bool.and_eq_true] at h
    cases x with
    | int i =>
      obtain ⟨e, d⟩ := digs_map h.2
      have hi : 0 ≤ i ∧ i < 16 := by
        have := h.1
        unfold isDig at this
        simpa using this
      refine ⟨?_, fun y hy => ?_⟩
      · show LV.int i :: r = LV.int i :: (intsV r).map .int
        rw [← e]
      · rcases List.mem_cons.mp hy with rfl | hy
        · exact hi
        · exact d y hy
    | _ => exact absurd h.1 (by unfold isDig; exact Bool.false_ne_true)
theorem prs_some {x : LV} (h : isPrs x = true) : ∃ z a c, x = .tup [.str z, .int a, .tup (c.map .int)] ∧ Nm z ∧ c.length = 5 ∧ Digs c ∧ pressOf x = some (z, a, c) := by
  have h0 := h
  unfold isPrs at h
  split at h
  · rename_i x y w
    rw [Bool.and_eq_true, Bool.and_eq_true] at h
    obtain ⟨h1, h2, h3⟩ := h
    cases x with
    | str z =>
      cases y with
      | int a =>
        cases w with
        | tup cs =>
          unfold isCodeV at h3
          rw [Bool.and_eq_true] at h3
          obtain ⟨e, d⟩ := digs_map h3.2
          have hl : cs.length = 5 := of_decide_eq_true h3.1
          refine ⟨z, a, intsV cs, by rw [← e], isNm_iff.mp h1, ?_, d, ?_⟩
          · rw [← hl]
            conv => rhs; rw [e]
            rw [List.length_map]
          · unfold pressOf
            dsimp only
            rw [if_pos h0]
        | _ => cases h3
      | _ => cases h2
    | _ => cases h1
  · cases h
theorem pressOf_prs {z : Str} {a : Int} {c : List Int} (hz : Nm z) (hl : c.length = 5) (hd : Digs c) : pressOf (.tup [.str z, .int a, .tup (c.map .int)]) = some (z, a, c) := by
  have e : ∀ c : List Int, intsV (c.map .int) = c := fun c => by
    induction c with
    | nil => rfl
    | cons i r ih => show i :: intsV (r.map .int) = i :: r; rw [ih]
  have hp : isPrs (.tup [.str z, .int a, .tup (c.map .int)]) = true := by
    show (isNm z && (true && (decide ((c.map LV.int).length = 5) && (c.map LV.int).all isDig))) = true
    rw [isNm_iff.mpr hz, List.length_map, decide_eq_true hl]
    simp only [Bool.true_and, List.all_map, List.all_eq_true, Function.comp]
    intro x hx
    have := hd x hx
    unfold isDig
    simpa using this
  unfold pressOf
  dsimp only
  rw [if_pos hp, e]
theorem pressOf_not {x : LV} (h : isPrs x = false) : pressOf x = none := by
  unfold pressOf
  split
  · rw [if_neg (by rw [h]; exact Bool.false_ne_true)]
  · rfl
theorem Tg.prs {h : LH} {z : Str} {a : Int} {c : List Int} (hz : z.length ≤ 1000) (hl : c.length ≤ 1000) : Tg h (.tup [.str z, .int a, .tup (c.map .int)]) :=
  ⟨⟨_, rfl⟩, fun _ e => (by cases e), fun xs e => by
    cases e
    refine ⟨show 3 ≤ 1000 by omega, fun y hy => ?_⟩
    simp only [List.mem_cons, List.not_mem_nil, or_false] at hy
    rcases hy with rfl | rfl | rfl
    · exact ⟨⟨_, rfl⟩, fun _ e => (by cases e; exact hz), fun _ e => (by cases e)⟩
    · exact ⟨⟨_, rfl⟩, fun _ e => (by cases e), fun _ e => (by cases e)⟩
    · refine ⟨⟨_, rfl⟩, fun _ e => (by cases e), fun ys e => ?_⟩
      cases e
      refine ⟨by rw [List.length_map]; exact hl, fun z hz => ?_⟩
      obtain ⟨i, _, rfl⟩ := List.mem_map.mp hz
      exact ⟨_, rfl⟩⟩
section
variable {h : LH} {Cs Qs : List HP} {ts : List LV} {x : LV}
theorem star_sub_l {P Q : HP} (s : star P Q h) : ∃ h1, (∀ a o, h1 a = some o → h a = some o) ∧ P h1 := by
  obtain ⟨h1, h2, d, rfl, p, q⟩ := s
  exact ⟨h1, fun a o e => un_l e, p⟩
theorem thgs_get (s : stars Cs h) (k : Pk Cs (thgs ts) Qs) (hx : x ∈ ts) : Tg h x := by
  obtain ⟨h1, sub, p⟩ := star_sub_l (show star (thgs ts) (stars Qs) h from k.out s)
  exact (p x hx).sub sub
end
/-- what a thing tells a door -/
def readX (D : Dm) (x : LV) : Option (Int × Int) := match pressOf x with
  | some (z, a, c) => readD D z a c
  | none => none
def learnX (D : Dm) (x y : LV) : LR := match pressOf x with
  | none => .bad 0
  | some (z1, a1, c1) => match readD D z1 a1 c1 with
    | none => .bad 0
    | some _ => match pressOf y with
      | none => .bad 1
      | some (z2, a2, c2) => learnR D z1 a1 c1 z2 a2 c2
def hearX (D : Dm) (x : LV) : LV × Dm := match pressOf x with
  | none => (heldA "bad", D)
  | some (z, a, c) => hearF D z a c
end VL

set_option Elab.async false
set_option linter.all false
set_option maxRecDepth 100000
set_option maxHeartbeats 4000000
/-! doors that never learnt some buttons -/
namespace VL
open PySem PySem.Spec PyProof.Rows L2
theorem lfls_strs : ∀ {zs : List Str}, lfls (zs.map LV.str) = some (zs.map V.str)
  | [] => rfl
  | z :: r => by
    show lfls (LV.str z :: r.map LV.str) = _
    unfold lfls
    rw [lfls_strs]
    rfl
theorem inV_strs {z : Str} : ∀ {zs : List Str}, inV (.str z) (zs.map V.str) = decide (z ∈ zs)
  | [] => (decide_eq_false List.not_mem_nil).symm
  | y :: r => by
    have ih : inV (.str z) (r.map V.str) = decide (z ∈ r) := inV_strs
    show (eqV (.str y) (.str z) || inV (.str z) (r.map V.str)) = _
    rw [ih]
    have e : eqV (.str y) (.str z) = decide (y = z) := rfl
    rw [e]
    by_cases h : y = z
    · rw [decide_eq_true h, Bool.true_or, decide_eq_true (by rw [h]; exact List.mem_cons_self)]
    · rw [decide_eq_false h, Bool.false_or]
      by_cases h2 : z ∈ r
      · rw [decide_eq_true h2, decide_eq_true (List.mem_cons_of_mem _ h2)]
      · rw [decide_eq_false h2, decide_eq_false]
        intro m
        rcases List.mem_cons.mp m with m | m
        · exact h m.symm
        · exact h2 m
theorem i_in_strs {F : Bool → Bool} {z : Str} {zs : List Str} {a : Addr} {h : LH} {L : LK} (e : h a = some (.lst (zs.map .str))) (q : L (.bl (F (decide (z ∈ zs)))) h) : gIn F (.str z) (.ref a) h L := by
  unfold gIn
  dsimp only
  rw [e]
  dsimp only
  rw [show lfl (.str z) = some (.str z) from rfl, lfls_strs]
  dsimp only
  rw [inV_strs]
  exact q
theorem eget_cons {p : Str × En} {r : Ents} {z : Str} : eget (p :: r) z = if p.1 = z then some p.2 else eget r z := by
  unfold eget
  rw [List.find?_cons]
  by_cases h : p.1 = z
  · rw [decide_eq_true h, if_pos h]
    rfl
  · rw [decide_eq_false h, if_neg h]
theorem eget_nil {z : Str} : eget [] z = none := rfl
/-- what is left when some are forgotten -/
def fgt (es : Ents) (gone : List Str) : Ents := es.filter fun p => !decide (p.1 ∈ gone)
theorem fgt_nil {es : Ents} : fgt es [] = es := by
  unfold fgt
  rw [List.filter_eq_self]
  intro p _
  rw [decide_eq_false List.not_mem_nil]
  rfl
theorem fgt_snoc {es : Ents} {gone : List Str} {z : Str} : edrop (fgt es gone) z = fgt es (gone ++ [z]) := by
  unfold edrop fgt
  rw [List.filter_filter]
  congr 1
  funext p
  by_cases h1 : p.1 = z
  · rw [decide_eq_false (p := p.1 ≠ z) (fun c => c h1), decide_eq_true (p := p.1 ∈ gone ++ [z]) (List.mem_append_right _ (by rw [h1]; exact List.mem_singleton_self _))]
    rfl
  · rw [decide_eq_true (p := p.1 ≠ z) h1, Bool.true_and]
    congr 1
    by_cases h2 : p.1 ∈ gone
    · rw [decide_eq_true h2, decide_eq_true (List.mem_append_left _ h2)]
    · rw [decide_eq_false h2, decide_eq_false]
      intro m
      rcases List.mem_append.mp m with m | m
      · exact h2 m
      · exact h1 (List.mem_singleton.mp m)
theorem eget_fgt {gone : List Str} {z : Str} : ∀ {es : Ents}, eget (fgt es gone) z = if z ∈ gone then none else eget es z
  | [] => by
    show eget [] z = _
    rw [eget_nil]
    split <;> rfl
  | p :: r => by
    have ih : eget (fgt r gone) z = if z ∈ gone then none else eget r z := eget_fgt
    unfold fgt
    rw [List.filter_cons]
    by_cases h : p.1 ∈ gone
    · rw [decide_eq_true h, Bool.not_true, if_neg Bool.false_ne_true]
      show eget (fgt r gone) z = _
      rw [ih, eget_cons]
      by_cases h2 : p.1 = z
      · subst h2
        rw [if_pos h, if_pos h]
      · rw [if_neg h2]
    · rw [decide_eq_false h, Bool.not_false, if_pos rfl]
      show eget (p :: fgt r gone) z = _
      rw [eget_cons, eget_cons, ih]
      by_cases h2 : p.1 = z
      · subst h2
        rw [if_pos rfl, if_neg h, if_pos rfl]
      · rw [if_neg h2, if_neg h2]
theorem fgt_ok {D : Dm} (k : D.ok) {gone : List Str} : ({ D with es := fgt D.es gone } : Dm).ok :=
  ⟨k.tab, k.k1, k.k8, k.kd, k.n1, k.n2, k.f1, k.f2, k.m1, k.m2, k.c0, List.Nodup.sublist (show ((fgt D.es gone).map (fun p => p.1)).Sublist (D.es.map (fun p => p.1)) from List.Sublist.map _ List.filter_sublist) k.nd, fun p hp => k.nm p (List.mem_filter.mp hp).1, Nat.le_trans (List.length_filter_le ..) k.le, fun p hp => k.ev p (List.mem_filter.mp hp).1, fun p hp => k.ew p (List.mem_filter.mp hp).1⟩
/-- the same but for some that are not known -/
structure Wo (gone : List Str) (D O : Dm) : Prop where
  tab : O.tab = D.tab
  keys : O.keys = D.keys
  near : O.near = D.near
  far : O.far = D.far
  most : O.most = D.most
  closed : O.closed = D.closed
  get : ∀ z, eget O.es z = if z ∈ gone then none else eget D.es z
theorem due_ne {D : Dm} {y z : Str} {age count deed : Int} (n : y ≠ z) : eget (dueF D z age count deed).2.es y = eget D.es y := by
  unfold dueF
  cases eget D.es z with
  | none => rfl
  | some e =>
    dsimp only
    split
    · exact eget_eput_ne n
    · rfl
theorem Wo.due {gone : List Str} {D O : Dm} (s : Wo gone D O) {z : Str} {age count deed : Int} : Wo gone (dueF D z age count deed).2 (dueF O z age count deed).2 := by
  have kD := due_keep (D := D) (z := z) (age := age) (count := count) (deed := deed)
  have kO := due_keep (D := O) (z := z) (age := age) (count := count) (deed := deed)
  refine ⟨by rw [kD.1, kO.1, s.tab], by rw [kD.2.1, kO.2.1, s.keys], by rw [kD.2.2.1, kO.2.2.1, s.near], by rw [kD.2.2.2.1, kO.2.2.2.1, s.far], by rw [kD.2.2.2.2.1, kO.2.2.2.2.1, s.most], by rw [kD.2.2.2.2.2, kO.2.2.2.2.2, s.closed], fun y => ?_⟩
  by_cases hy : y = z
  · subst hy
    by_cases hg : y ∈ gone
    · have qO : eget O.es y = none := by rw [s.get, if_pos hg]
      rw [due_no qO, if_pos hg]
      exact qO
    · rw [if_neg hg]
      have qO : eget O.es y = eget D.es y := by rw [s.get, if_neg hg]
      cases q : eget D.es y with
      | none => rw [due_no q, due_no (qO.trans q)]; exact qO
      | some e =>
        have et : O.takes age = D.takes age := by unfold Dm.takes; rw [s.closed, s.keys]
        by_cases ht : D.takes age ∧ ¬ age < e.age
        · have ec : countF O e y age count deed = countF D e y age count deed := by unfold countF; rw [s.near, s.far]
          rw [due_some q ht, due_some (qO.trans q) (by rw [et]; exact ht), ec]
          exact eget_eput.trans eget_eput.symm
        · rw [due_not q ht, due_not (qO.trans q) (by rw [et]; exact ht)]
          exact qO
  · rw [due_ne hy, due_ne hy, s.get]
/-- a press that is heard: its button, age, count, deed -/
structure Pr where
  z : Str
  age : Int
  count : Int
  deed : Int
def Pr.lv (tab : List Int) (keys : List (List Int)) (p : Pr) : LV := .tup [.str p.z, .int p.age, .tup ((codeF tab (keys.getD p.age.toNat []) p.z p.count p.deed).map .int)]
structure Pr.ok (n : Nat) (p : Pr) : Prop where
  nm : Nm p.z
  a0 : 0 ≤ p.age
  a1 : p.age < n
  c0 : 0 ≤ p.count
  c1 : p.count < 4096
  d0 : 0 ≤ p.deed
  d1 : p.deed < 16
def playF (D : Dm) (ps : List Pr) : Dm := ps.foldl (fun D p => (dueF D p.z p.age p.count p.deed).2) D
theorem play_snoc {D : Dm} {ps : List Pr} {p : Pr} : playF D (ps ++ [p]) = (dueF (playF D ps) p.z p.age p.count p.deed).2 := by
  unfold playF
  rw [List.foldl_append]
  rfl
theorem Wo.play {gone : List Str} : ∀ {ps : List Pr} {D O : Dm}, Wo gone D O → Wo gone (playF D ps) (playF O ps)
  | [], _, _, s => s
  | _ :: r, _, _, s => Wo.play (ps := r) s.due
theorem play_keep : ∀ {ps : List Pr} {D : Dm}, (playF D ps).tab = D.tab ∧ (playF D ps).keys = D.keys ∧ (playF D ps).near = D.near ∧ (playF D ps).far = D.far ∧ (playF D ps).most = D.most ∧ (playF D ps).closed = D.closed
  | [], _ => ⟨rfl, rfl, rfl, rfl, rfl, rfl⟩
  | p :: r, D => by
    have h1 := play_keep (ps := r) (D := (dueF D p.z p.age p.count p.deed).2)
    have h2 := due_keep (D := D) (z := p.z) (age := p.age) (count := p.count) (deed := p.deed)
    exact ⟨h1.1.trans h2.1, h1.2.1.trans h2.2.1, h1.2.2.1.trans h2.2.2.1, h1.2.2.2.1.trans h2.2.2.2.1, h1.2.2.2.2.1.trans h2.2.2.2.2.1, h1.2.2.2.2.2.trans h2.2.2.2.2.2⟩
theorem Wo.sm {gone : List Str} {D O : Dm} (s : Wo gone D O) : Sm { D with es := fgt D.es gone } O := ⟨s.tab.symm, s.keys.symm, s.near.symm, s.far.symm, s.most.symm, s.closed.symm, fun z => by rw [s.get]; exact eget_fgt⟩
/-! what was learnt -/
abbrev Ln := List (Str × Int × Int)
def lnV (l : Str × Int × Int) : LV := .tup [.str l.1, .int l.2.1, .int l.2.2]
def lrnE (ls : Ln) (gone : List Str) : Ents := (ls.filter fun l => !decide (l.1 ∈ gone)).map fun l => (l.1, ⟨l.2.1, l.2.2 + 1, none⟩)
theorem lrnE_mem {ls : Ln} {gone : List Str} {p : Str × En} (h : p ∈ lrnE ls gone) : ∃ l ∈ ls, p = (l.1, ⟨l.2.1, l.2.2 + 1, none⟩) := by
  obtain ⟨l, hl, rfl⟩ := List.mem_map.mp h
  exact ⟨l, (List.mem_filter.mp hl).1, rfl⟩
theorem lrnE_length {ls : Ln} {gone : List Str} : (lrnE ls gone).length ≤ ls.length := by
  unfold lrnE
  rw [List.length_map]
  exact List.length_filter_le ..
theorem lrnE_snocS {ls : Ln} {gone : List Str} {l : Str × Int × Int} (h : l.1 ∈ gone) : lrnE (ls ++ [l]) gone = lrnE ls gone := by
  unfold lrnE
  rw [List.filter_append, List.filter_cons, decide_eq_true h, Bool.not_true, if_neg Bool.false_ne_true, List.filter_nil, List.append_nil]
theorem lrnE_snocN {ls : Ln} {gone : List Str} {l : Str × Int × Int} (h : l.1 ∉ gone) : lrnE (ls ++ [l]) gone = lrnE ls gone ++ [(l.1, ⟨l.2.1, l.2.2 + 1, none⟩)] := by
  unfold lrnE
  rw [List.filter_append, List.filter_cons, decide_eq_false h, Bool.not_false, if_pos rfl, List.filter_nil, List.map_append]
  rfl
theorem lrnE_none {ls : Ln} {gone : List Str} {i : Nat} {l : Str × Int × Int} (nd : (ls.map (·.1)).Nodup) (hl : ls[i]? = some l) : eget (lrnE (ls.take i) gone) l.1 = none := by
  rw [eget_none]
  intro p hp e
  obtain ⟨m, hm, rfl⟩ := lrnE_mem hp
  refine take_notin nd (i := i) (z := l.1) (by rw [List.getElem?_map, hl]; rfl) ?_
  rw [← List.map_take]
  exact List.mem_map.mpr ⟨m, hm, e⟩
theorem eget_lrn {gone : List Str} {z : Str} : ∀ {ls : Ln}, eget (lrnE ls gone) z = if z ∈ gone then none else eget (lrnE ls []) z
  | [] => by
    show eget [] z = if z ∈ gone then none else eget [] z
    rw [eget_nil]
    split <;> rfl
  | l :: r => by
    have ih : eget (lrnE r gone) z = if z ∈ gone then none else eget (lrnE r []) z := eget_lrn
    have e0 : lrnE (l :: r) [] = (l.1, ⟨l.2.1, l.2.2 + 1, none⟩) :: lrnE r [] := by
      unfold lrnE
      rw [List.filter_cons, decide_eq_false List.not_mem_nil, Bool.not_false, if_pos rfl]
      rfl
    rw [e0, eget_cons]
    by_cases h : l.1 ∈ gone
    · have e1 : lrnE (l :: r) gone = lrnE r gone := by
        unfold lrnE
        rw [List.filter_cons, decide_eq_true h, Bool.not_true, if_neg Bool.false_ne_true]
      rw [e1, ih]
      by_cases h2 : l.1 = z
      · subst h2
        rw [if_pos h, if_pos h]
      · rw [if_neg h2]
    · have e1 : lrnE (l :: r) gone = (l.1, ⟨l.2.1, l.2.2 + 1, none⟩) :: lrnE r gone := by
        unfold lrnE
        rw [List.filter_cons, decide_eq_false h, Bool.not_false, if_pos rfl]
        rfl
      rw [e1, eget_cons, ih]
      by_cases h2 : l.1 = z
      · subst h2
        rw [if_pos rfl, if_neg h, if_pos rfl]
      · rw [if_neg h2, if_neg h2]
def lnOf (es : Ents) (z : Str) : Str × Int × Int := match eget es z with
  | some e => (z, e.age, e.last - 1)
  | none => (z, 0, 0)
theorem lnOf_fst {es : Ents} {z : Str} : (lnOf es z).1 = z := by unfold lnOf; split <;> rfl
def lnsOf (es : Ents) : Ln := (srtS (names es)).map (lnOf es)
theorem lnsOf_names {es : Ents} : (lnsOf es).map (·.1) = srtS (names es) := by
  unfold lnsOf
  rw [List.map_map]
  conv => rhs; rw [← List.map_id (srtS (names es))]
  exact List.map_congr_left fun z _ => lnOf_fst
theorem eget_lnOf {es : Ents} {z : Str} : ∀ {zs : List Str}, eget (lrnE (zs.map (lnOf es)) []) z = if z ∈ zs then some ⟨(lnOf es z).2.1, (lnOf es z).2.2 + 1, none⟩ else none
  | [] => rfl
  | y :: r => by
    have ih : eget (lrnE (r.map (lnOf es)) []) z = if z ∈ r then some ⟨(lnOf es z).2.1, (lnOf es z).2.2 + 1, none⟩ else none := eget_lnOf
    have e0 : lrnE ((y :: r).map (lnOf es)) [] = ((lnOf es y).1, ⟨(lnOf es y).2.1, (lnOf es y).2.2 + 1, none⟩) :: lrnE (r.map (lnOf es)) [] := by
      unfold lrnE
      rw [List.map_cons, List.filter_cons, decide_eq_false List.not_mem_nil, Bool.not_false, if_pos rfl]
      rfl
    rw [e0, eget_cons, ih, lnOf_fst]
    by_cases h : y = z
    · subst h
      rw [if_pos rfl, if_pos List.mem_cons_self]
    · rw [if_neg h]
      by_cases h2 : z ∈ r
      · rw [if_pos h2, if_pos (List.mem_cons_of_mem _ h2)]
      · rw [if_neg h2, if_neg]
        intro m
        rcases List.mem_cons.mp m with m | m
        · exact h m.symm
        · exact h2 m
theorem eget_lns {es : Ents} {z : Str} (hw : ∀ p ∈ es, p.2.w = none) : eget (lrnE (lnsOf es) []) z = eget es z := by
  unfold lnsOf
  rw [eget_lnOf]
  cases q : eget es z with
  | none =>
    rw [if_neg]
    intro m
    obtain ⟨e, he⟩ := names_iff.mp ((srtS_perm _).mem_iff.mp m)
    rw [he] at q
    cases q
  | some e =>
    rw [if_pos ((srtS_perm _).mem_iff.mpr (names_iff.mpr ⟨e, q⟩))]
    unfold lnOf
    rw [q]
    have h2 : e.w = none := hw _ (eget_mem q)
    obtain ⟨a, l, w⟩ := e
    dsimp only at h2
    subst h2
    dsimp only
    rw [show l - 1 + 1 = l by omega]
theorem wo_lrn {D : Dm} {gone : List Str} (hc : D.closed = 0) (hw : ∀ p ∈ D.es, p.2.w = none) : Wo gone D { D with closed := 0, es := lrnE (lnsOf D.es) gone } :=
  ⟨rfl, rfl, rfl, rfl, rfl, hc.symm, fun z => by
    show eget (lrnE (lnsOf D.es) gone) z = _
    rw [eget_lrn, eget_lns hw]⟩
theorem play_ok {D : Dm} (k : D.ok) : ∀ {ps : List Pr}, (∀ p ∈ ps, p.ok D.keys.length) → (playF D ps).ok := by
  intro ps
  induction ps generalizing D with
  | nil => intro _; exact k
  | cons p r ih =>
    intro h
    have hp := h p List.mem_cons_self
    refine ih (D := (dueF D p.z p.age p.count p.deed).2) (due_ok k hp.a0 hp.c0 hp.c1) fun x hx => ?_
    rw [due_keep.2.1]
    exact h x (List.mem_cons_of_mem _ hx)
/-! a list of texts beside an empty list -/
theorem allD_strs {h : LH} {n : Nat} : ∀ xs : List Str, allD (toD h (n + 1)) (xs.map .str) = some (xs.map PyData.str)
  | [] => rfl
  | x :: xs => by
    show allD (toD h (n + 1)) (LV.str x :: xs.map .str) = _
    unfold allD
    rw [allD_strs xs]
    rfl
theorem toD_strs {h : LH} {a : Addr} {n : Nat} {xs : List Str} (e : h a = some (.lst (xs.map .str))) : toD h (n + 2) (.ref a) = some (.list (xs.map PyData.str)) := by
  unfold toD
  dsimp only
  rw [e]
  dsimp only
  rw [allD_strs]
theorem lay_strs : ∀ xs : List Str, (∀ x ∈ xs, PyData.strOk x = true) → PyData.canLayAll0 (xs.map PyData.str) = true ∧ PyData.depthAll (xs.map PyData.str) ≤ 0
  | [], _ => ⟨rfl, Nat.le_refl _⟩
  | x :: xs, k => by
    obtain ⟨h1, h2⟩ := lay_strs xs fun y hy => k y (List.mem_cons_of_mem _ hy)
    have h3 := k x List.mem_cons_self
    constructor
    · show PyData.canLayAll0 (PyData.str x :: xs.map PyData.str) = true
      unfold PyData.canLayAll0
      rw [h1]
      unfold PyData.canLay0
      rw [h3]
      rfl
    · show PyData.depthAll (PyData.str x :: xs.map PyData.str) ≤ 0
      unfold PyData.depthAll
      exact Nat.max_le.mpr ⟨Nat.le_refl _, h2⟩
theorem shaped_strs {xs : List Str} (k : ∀ x ∈ xs, PyData.strOk x = true) : SeqAt.shaped (PyData.list (xs.map PyData.str)) = true := by
  obtain ⟨h1, h2⟩ := lay_strs xs k
  unfold SeqAt.shaped
  have e1 : (PyData.list (xs.map PyData.str)).canLay0 = true := by
    unfold PyData.canLay0
    exact h1
  have e2 : (PyData.list (xs.map PyData.str)).depth ≤ 64 := by
    unfold PyData.depth
    omega
  rw [e1, decide_eq_true e2]
  rfl
theorem i_eq_nil {F : Bool → Bool} {zs : List Str} {a b : Addr} {h : LH} {L : LK} (k : ∀ z ∈ zs, Low z) (ea : h a = some (.lst (zs.map .str))) (eb : h b = some (.lst [])) (q : L (.bl (F (decide (zs = [])))) h) : gEqW F (.ref a) (.ref b) h L := by
  unfold gEqW
  dsimp only
  have e1 : toD h 8 (.ref a) = some (.list (zs.map PyData.str)) := toD_strs ea
  have e2 : toD h 8 (.ref b) = some (.list ([].map PyData.str)) := toD_strs eb
  rw [e1, e2]
  dsimp only
  refine ⟨shaped_strs fun z hz => (k z hz).ok, shaped_strs fun z hz => absurd hz List.not_mem_nil, ?_⟩
  cases zs with
  | nil => exact q
  | cons z r => exact q
theorem fgt_all {es : Ents} {gone : List Str} (h : ∀ z ∈ names es, z ∈ gone) : fgt es gone = [] := by
  unfold fgt
  rw [List.filter_eq_nil_iff]
  intro p hp
  rw [decide_eq_true (h p.1 (List.mem_map.mpr ⟨p, hp, rfl⟩))]
  exact Bool.false_ne_true
theorem known_nil {D : Dm} (h : D.es = []) : knownF D = [] := by
  unfold knownF
  rw [h]
  show List.map _ (srtS []) = []
  unfold srtS
  rw [List.mergeSort_nil]
  rfl
theorem count_deed {D : Dm} {e : En} {z : Str} {age count d1 d2 : Int} : (countF D e z age count d1).2 = (countF D e z age count d2).2 := by
  unfold countF
  repeat' split
  all_goals rfl
theorem due_deed {D : Dm} {z : Str} {age count d1 d2 : Int} : (dueF D z age count d1).2 = (dueF D z age count d2).2 := by
  unfold dueF
  cases eget D.es z with
  | none => rfl
  | some e =>
    dsimp only
    split
    · rw [count_deed (d1 := d1) (d2 := d2)]
    · rfl
theorem due_names {D : Dm} {z : Str} {age count deed : Int} : names (dueF D z age count deed).2.es = names D.es := by
  cases q : eget D.es z with
  | none => rw [due_no q]
  | some e =>
    by_cases ht : D.takes age ∧ ¬ age < e.age
    · rw [due_some q ht]
      exact eput_names q
    · rw [due_not q ht]
theorem play_names : ∀ {ps : List Pr} {D : Dm}, names (playF D ps).es = names D.es
  | [], _ => rfl
  | p :: r, D => (play_names (ps := r) (D := (dueF D p.z p.age p.count p.deed).2)).trans due_names
theorem lns_ok {D : Dm} (k : D.ok) (h : ∀ p ∈ D.es, 1 ≤ p.2.last) : ∀ l ∈ lnsOf D.es, Nm l.1 ∧ 0 ≤ l.2.1 ∧ l.2.1 < D.keys.length ∧ 0 ≤ l.2.2 ∧ l.2.2 + 1 < 4096 := by
  intro l hl
  obtain ⟨z, hz, rfl⟩ := List.mem_map.mp hl
  obtain ⟨hn, e, he⟩ := names_nm k ((srtS_perm _).mem_iff.mp hz)
  have hm := eget_mem he
  have h1 := k.ev _ hm
  have h2 := h _ hm
  dsimp only at h1 h2
  unfold lnOf
  rw [he]
  dsimp only
  exact ⟨hn, h1.1, h1.2.1, by omega, by omega⟩
theorem lns_nd {D : Dm} (k : D.ok) : ((lnsOf D.es).map (·.1)).Nodup := by
  rw [lnsOf_names]
  exact (srtS_perm _).nodup_iff.mpr k.nd
end VL

set_option Elab.async false
set_option linter.all false
set_option maxRecDepth 100000
set_option maxHeartbeats 4000000
/-! answers by ==; cells that are torn -/
namespace VL
open PySem PySem.Spec PyProof.Rows L2
theorem Pq.low {n : Nat} {z : Str} (h : Low z) : Pq (n + 1) (.str z) := .str h.ok
theorem Pq.held {n : Nat} {w : Str} (h : Low w) : Pq (n + 2) (heldA w) := .two (.low ⟨by decide, by decide⟩) (.low h)
theorem Pq.opened {n : Nat} {w : Str} {i : Int} (h : Low w) : Pq (n + 2) (openA w i) := .three (.low ⟨by decide, by decide⟩) (.low h) .int
theorem Pq.count {n : Nat} {D : Dm} {e : En} {z : Str} {age count deed : Int} (hz : Nm z) : Pq (n + 2) (countF D e z age count deed).1 := by
  unfold countF
  repeat' split
  all_goals first | exact .opened hz.low | exact .held ⟨by decide, by decide⟩
theorem Pq.due {n : Nat} {D : Dm} {z : Str} {age count deed : Int} (hz : Nm z) : Pq (n + 2) (dueF D z age count deed).1 := by
  unfold dueF
  repeat' split
  all_goals first | exact .count hz | exact .held ⟨by decide, by decide⟩
theorem Pq.ans {n : Nat} {D : Dm} {z : Str} {age : Int} {code : List Int} (hz : Nm z) : Pq (n + 2) (hearF D z age code).1 := by
  unfold hearF ansF
  repeat' split
  all_goals first | exact .count hz | exact .held ⟨by decide, by decide⟩
/-! ### a cell that is torn -/
def Bt.tear (B : Bt) : Bt := if B.n = B.bd ∧ B.n < 4096 then (if B.c0 = some B.bd then { B with c1 := none } else { B with c0 := none }) else B
def Bt.torn (B : Bt) : Bt := B.tear.out
theorem Bt.tear_keep {B : Bt} : B.tear.z = B.z ∧ B.tear.tab = B.tab ∧ B.tear.key = B.key ∧ B.tear.age = B.age ∧ B.tear.step = B.step ∧ B.tear.n = B.n ∧ B.tear.bd = B.bd := by
  unfold Bt.tear
  split
  · split <;> exact ⟨rfl, rfl, rfl, rfl, rfl, rfl, rfl⟩
  · exact ⟨rfl, rfl, rfl, rfl, rfl, rfl, rfl⟩
theorem Bt.ok.tear {B : Bt} (k : B.ok) : B.tear.ok := by
  obtain ⟨h1, h2, h3, h4, h5, h6, h7, h8, h9, h10⟩ := k
  unfold Bt.tear
  split
  · split
    · rename_i h
      exact ⟨h1, h2, h3, h4, h5, h6, h7, .inl h, h9, fun x hx => by cases hx⟩
    · rename_i h
      exact ⟨h1, h2, h3, h4, h5, h6, h7, .inr (h8.resolve_left h), (fun x hx => by cases hx), h10⟩
  · exact ⟨h1, h2, h3, h4, h5, h6, h7, h8, h9, h10⟩
theorem Bt.ok.torn {B : Bt} (k : B.ok) : B.torn.ok := k.tear.out
theorem Bt.torn_keep {B : Bt} : B.torn.z = B.z ∧ B.torn.tab = B.tab ∧ B.torn.key = B.key ∧ B.torn.age = B.age ∧ B.torn.step = B.step ∧ B.torn.n = B.bd ∧ B.torn.bd = B.bd := by
  obtain ⟨e1, e2, e3, e4, e5, e6, e7⟩ := B.tear_keep
  exact ⟨e1, e2, e3, e4, e5, e7, e7⟩
theorem Bt.tear_a {B : Bt} (h : B.n = B.bd) (h2 : B.n < 4096) (h3 : B.c0 = some B.bd) : B.tear = ⟨B.z, B.tab, B.key, B.age, B.step, B.n, B.bd, B.c0, none⟩ := by unfold Bt.tear; rw [if_pos ⟨h, h2⟩, if_pos h3]
theorem Bt.tear_b {B : Bt} (h : B.n = B.bd) (h2 : B.n < 4096) (h3 : ¬B.c0 = some B.bd) : B.tear = ⟨B.z, B.tab, B.key, B.age, B.step, B.n, B.bd, none, B.c1⟩ := by unfold Bt.tear; rw [if_pos ⟨h, h2⟩, if_neg h3]
theorem Bt.tear_c {B : Bt} (h : ¬(B.n = B.bd ∧ B.n < 4096)) : B.tear = B := by unfold Bt.tear; rw [if_neg h]
theorem erase_split {α : Type} : ∀ {l : List α} {i : Nat} {z : α}, l[i]? = some z → ∃ a b, l = a ++ z :: b ∧ l.eraseIdx i = a ++ b
  | [], _, _, h => by cases h
  | x :: r, 0, z, h => by
    have e : x = z := by simpa using h
    subst e
    exact ⟨[], r, rfl, rfl⟩
  | x :: r, i + 1, z, h => by
    obtain ⟨a, b, e1, e2⟩ := erase_split (l := r) (i := i) (z := z) (by simpa using h)
    exact ⟨x :: a, b, by rw [e1]; rfl, by rw [List.eraseIdx_cons_succ, e2]; rfl⟩
theorem erase_notin {α : Type} {l : List α} (nd : l.Nodup) {i : Nat} {z : α} (h : l[i]? = some z) : z ∉ l.eraseIdx i := by
  obtain ⟨a, b, e1, e2⟩ := erase_split h
  rw [e2]
  rw [e1, List.nodup_append, List.nodup_cons] at nd
  intro m
  rcases List.mem_append.mp m with m | m
  · exact nd.2.2 z m z List.mem_cons_self rfl
  · exact nd.2.1.1 m
theorem erase_mem {α : Type} {l : List α} {i : Nat} {y z : α} (h : l[i]? = some z) (n : y ≠ z) (m : y ∈ l) : y ∈ l.eraseIdx i := by
  obtain ⟨a, b, e1, e2⟩ := erase_split h
  rw [e2]
  rw [e1] at m
  rcases List.mem_append.mp m with m | m
  · exact List.mem_append_left _ m
  · rcases List.mem_cons.mp m with m | m
    · exact absurd m n
    · exact List.mem_append_right _ m
end VL

set_option Elab.async false
set_option linter.all false
set_option maxRecDepth 100000
set_option maxHeartbeats 4000000
/-! slices with a step -/
namespace VL
open PySem PySem.Spec PyProof.Rows L2
/-! ### x[i::k], x[::-1] -/
def pickL {α : Type} (xs : List α) (js : List Nat) : List α := js.filterMap fun j => xs[j]?
def slJ (i : Int) (k : Nat) (n : Nat) : List Nat := PySem.sliceRange (sliceBounds (some i) none (some (k : Int)) n).1 (sliceBounds (some i) none (some (k : Int)) n).2.1 (sliceBounds (some i) none (some (k : Int)) n).2.2
theorem pickL_map {α β : Type} (f : α → β) {xs : List α} : ∀ js : List Nat, pickL (xs.map f) js = (pickL xs js).map f
  | [] => rfl
  | j :: js => by
    unfold pickL
    rw [List.filterMap_cons, List.filterMap_cons, List.getElem?_map]
    have ih : List.filterMap (fun j => (xs.map f)[j]?) js = (List.filterMap (fun j => xs[j]?) js).map f := pickL_map f js
    cases xs[j]? with
    | none => exact ih
    | some x => exact congrArg (f x :: ·) ih
theorem vals_pick {vs : List V} {us : List Value} (r : Vals vs us) : ∀ js : List Nat, Vals (pickL vs js) (pickL us js)
  | [] => .nil
  | j :: js => by
    have ih := vals_pick r js
    unfold pickL at ih ⊢
    rw [List.filterMap_cons, List.filterMap_cons]
    by_cases hj : j < vs.length
    · have hj2 : j < us.length := by rw [← r.length]; exact hj
      obtain ⟨u, e, ru⟩ := r.get (i := j) (x := vs[j]) (List.getElem?_eq_getElem hj)
      rw [e, List.getElem?_eq_getElem hj]
      exact .cons ru ih
    · rw [List.getElem?_eq_none (by omega), List.getElem?_eq_none (by rw [← r.length]; omega)]
      exact ih
theorem RVs.pick {K : PySem.W.Frag} {H : Hp} {xs : List LV} {vs : List V} (r : RVs K H xs vs) : ∀ js : List Nat, RVs K H (pickL xs js) (pickL vs js)
  | [] => .nil
  | j :: js => by
    have ih := RVs.pick r js
    unfold pickL at ih ⊢
    rw [List.filterMap_cons, List.filterMap_cons]
    by_cases hj : j < xs.length
    · obtain ⟨u, e, ru⟩ := r.get (i := j) (x := xs[j]) (List.getElem?_eq_getElem hj)
      rw [e, List.getElem?_eq_getElem hj]
      exact .cons ru ih
    · rw [List.getElem?_eq_none (by omega), List.getElem?_eq_none (by rw [← r.length]; omega)]
      exact ih
def cStepL (K : PySem.W.Frag) (k : Nat) (x : V) (Q : VK) : Option Int → Hp → Prop := fun o H2 => ∃ (l : Addr) (vs : List V) (i : Int), x = .ref l ∧ o = some i ∧ SqL K H2 l vs ∧ (pickL vs (slJ i k vs.length)).length ≤ sizeLine ∧ ∀ p, H2 p = none → Q (.ref p) (L2.upd H2 p (.lst (pickL vs (slJ i k vs.length))))
def tStepL (K : PySem.W.Frag) (k : Nat) (te ta : TE) : TE := fun σ H Q => te σ H fun x H1 => tPart ta σ H1 (cStepL K k x Q)
theorem pe_stepL {X : Cx} {e a : Expr} {te ta : TE} {k j : Nat} {p1 p3 pos : Pos} (hk : 1 ≤ k) (he : PE X e te) (ha : PE X a ta) : PE X (.Subscript e (.Slice (some a) none (some (.Constant (.int k) j p1)) p3) pos) (tStepL X.K k te ta) := by
  constructor
  intro pins s σ H Q J w
  refine Subscript_ (thn (he.run pins s σ H _ J w) ?_)
  rintro v s1 ⟨x, H1, J1, rx, w1⟩
  have pa : PO X (some a) (tPart ta) := po_some ha
  have pk : PO X (some (.Constant (.int k) j p1)) (tPart (tC (.int k))) := po_some pe_int
  refine wpAny_Slice (thn (pa.run pins s1 σ H1 (cStepL X.K k x Q) J1 w1) ?_)
  rintro vl s2 ⟨o, H2, J2, ql, l, vs, i, ex, eo, hx, hz, q⟩
  subst ex eo
  cases rx
  refine thn (po_none.run pins s2 σ H2 (fun o H3 => o = none ∧ H3 = H2) J2 ⟨rfl, rfl⟩) ?_
  rintro vu s3 ⟨o, H3, J3, qu, eo, e3⟩
  subst eo e3
  refine thn (pk.run pins s3 σ H3 (fun o H4 => o = some (k : Int) ∧ H4 = H3) J3 ⟨k, rfl, rfl, rfl⟩) ?_
  rintro vk s4 ⟨o, H4, J4, qk, eo, e4⟩
  subst eo e4
  have J5 : Inv X pins σ H4 { s4 with heap := s4.heap.push { cls := .type "slice", data := .fields #[vl, vu, vk] } } := J4.kept (t' := s4.toks) fun b ob g => Heap.get?_push_of_some _ g
  obtain ⟨its, rv, ht, hlz⟩ := J5.list hx
  have hlen := rv.length
  show wpAny (model X.prog X.w) X.A (subscriptTail e (.Slice (some a) none (some (.Constant (.int k) j p1)) p3) (.ref l) (.ref s4.heap.objs.size)) (EP X pins σ Q) X.xe { s4 with heap := s4.heap.push { cls := .type "slice", data := .fields #[vl, vu, vk] } }
  refine tail_any (ops := [.ref l, .ref s4.heap.objs.size]) ht.isList.typeIs (PySem.slot_list_getitem.lookup) ?_ (by with_unfolding_all rfl)
  refine wpAny_getItem_list_slice ht.isList (Heap.IsSliceOf.new _ vl vu vk) ql qu qk (fun c => by have := Option.some.inj c; omega) ?_ (by rw [List.size_toArray]; omega)
  have ep : slicePick its.toArray (some i) none (some (k : Int)) = (pickL its (slJ i k vs.length)).toArray := by
    unfold slicePick pickL slJ
    rw [List.size_toArray, hlen]
    congr 1
    congr 1
    funext q
    exact List.getElem?_toArray
  rw [ep]
  refine ⟨.ref _, _, J5.laid (t' := s4.toks) (o := .lst (pickL vs (slJ i k vs.length))) (fun b ob g => Heap.get?_push_of_some _ g) (Nat.le_refl _) ?_, rfl, q _ (J5.hok.fresh (Nat.le_refl _))⟩
  exact ⟨hz, _, 0, vals_pick rv _, Heap.get?_push_size _ rfl⟩
def gStepL (k : Nat) : LV → LV → LH → LK → Prop := fun x y h L => match x, y with
  | .ref a, .int i => (match h a with
    | some (.lst xs) => (pickL xs (slJ i k xs.length)).length ≤ 100000 ∧ cNew (.lst (pickL xs (slJ i k xs.length))) L h
    | _ => False)
  | _, _ => False
def lStepL (k : Nat) (la lb : LTE) : LTE := fun s h E L => la s h E fun x h1 => lb s h1 E fun y h2 => gStepL k x y h2 L
theorem le_stepL {X : Cx} {W : WX} {e a : Expr} {la lb : LTE} {k j : Nat} {p1 p3 pos : Pos} (hk : 1 ≤ k) (ha : LE X W e la) (hb : LE X W a lb) : LE X W (.Subscript e (.Slice (some a) none (some (.Constant (.int k) j p1)) p3) pos) (lStepL k la lb) :=
  peW (pe_stepL hk ha hb) fun σ H Q ⟨s, h, E, L, z, hl, out⟩ => ⟨s, h, E, _, z, hl, fun v H1 x h1 t1 r1 rx q1 => ⟨s, h1, E, _, z.step t1 r1, q1, fun u H2 y h2 t2 r2 ry q2 => by
    unfold gStepL at q2
    split at q2
    · rename_i b i
      cases rx
      cases ry
      split at q2
      · rename_i xs ea
        obtain ⟨ws, e2, rr⟩ := r2 b _ ea
        obtain ⟨g1, g2⟩ := q2
        have hl2 := rr.length
        refine ⟨i, rfl, b, ws, i, rfl, rfl, .of e2, ?_, fun p hp => ?_⟩
        · rw [← (rr.pick (slJ i k ws.length)).length, ← hl2]
          exact szl g1
        · have hn := r2.fresh hp
          refine out _ _ (.ref p) _ ((t1.trans t2).trans (.new hp)) (r2.lay hp (.mkL upd_same ?_)) (.ref p) (g2 p hn)
          rw [← hl2]
          exact (rr.pick _).mono (.new hp)
      · exact q2.elim
    · exact q2.elim⟩⟩
def gRevL : LV → LH → LK → Prop := fun x h L => match x with
  | .ref a => (match h a with
    | some (.lst xs) => cNew (.lst xs.reverse) L h
    | _ => False)
  | _ => False
def lRevSl (la : LTE) : LTE := fun s h E L => la s h E fun x h1 => gRevL x h1 L
theorem le_revsl {X : Cx} {W : WX} {e : Expr} {la : LTE} {k : Nat} {p1 p2 p3 pos : Pos} (ha : LE X W e la) : LE X W (.Subscript e (.Slice none none (some (.UnaryOp .USub (.Constant (.int 1) k p1) p2)) p3) pos) (lRevSl la) :=
  peW (pe_revL ha) fun σ H Q ⟨s, h, E, L, z, hl, out⟩ => ⟨s, h, E, _, z, hl, fun v H1 x h1 t1 r1 rx q1 => by
    unfold gRevL at q1
    split at q1
    · rename_i b
      cases rx
      split at q1
      · rename_i xs ea
        obtain ⟨ws, e2, rr⟩ := r1 b _ ea
        exact ⟨b, ws, rfl, .of e2, fun p hp => out _ _ (.ref p) _ (t1.trans (.new hp)) (r1.lay hp (.mkL upd_same (rr.reverse.mono (.new hp)))) (.ref p) (q1 p (r1.fresh hp))⟩
      · exact q1.elim
    · exact q1.elim⟩
section
variable {k : Nat} {la lb : LTE} {s : LS} {h : LH} {E : LX} {L : LK} {a : Addr} {xs : List LV} {i : Int}
theorem i_stepL (q : la s h E fun x h1 => lb s h1 E fun y h2 => gStepL k x y h2 L) : lStepL k la lb s h E L := q
instance st_i_stepL : Stp (lStepL k la lb s h E L) (la s h E fun x h1 => lb s h1 E fun y h2 => gStepL k x y h2 L) := ⟨i_stepL⟩
theorem s_stepL (e : h a = some (.lst xs)) (hz : (pickL xs (slJ i k xs.length)).length ≤ 100000) (q : cNew (.lst (pickL xs (slJ i k xs.length))) L h) : gStepL k (.ref a) (.int i) h L := by
  unfold gStepL
  dsimp only
  rw [e]
  exact ⟨hz, q⟩
theorem i_revSl (q : la s h E fun x h1 => gRevL x h1 L) : lRevSl la s h E L := q
instance st_i_revSl : Stp (lRevSl la s h E L) (la s h E fun x h1 => gRevL x h1 L) := ⟨i_revSl⟩
theorem s_revL (e : h a = some (.lst xs)) (q : cNew (.lst xs.reverse) L h) : gRevL (.ref a) h L := by
  unfold gRevL
  dsimp only
  rw [e]
  exact q
end
/-- every fourth from p on, of at most sixteen -/
theorem slJ4 : ∀ (p : Fin 4) (n : Fin 17), slJ ((p.val : Nat) : Int) 4 n.val = (List.range n.val).filter fun j => j % 4 == p.val := by decide +kernel
theorem pick_len {α : Type} {xs : List α} : ∀ js : List Nat, (pickL xs js).length ≤ js.length
  | [] => Nat.le_refl _
  | j :: js => by
    have ih := pick_len (xs := xs) js
    unfold pickL at ih ⊢
    rw [List.filterMap_cons]
    cases xs[j]? with
    | none => exact Nat.le_succ_of_le ih
    | some x => exact Nat.succ_le_succ ih
/-! ### "".join(some texts) -/
def strsV : List LV → Option (List Str)
  | [] => some []
  | .str z :: r => (strsV r).map (z :: ·)
  | _ => none
theorem strsV_ok {K : PySem.W.Frag} {H : Hp} : ∀ {xs : List LV} {vs : List V} {zs : List Str}, RVs K H xs vs → strsV xs = some zs → vs = zs.map V.str
  | [], _, _, .nil, e => by cases e; rfl
  | .str z :: r, _, zs, .cons (.str _) t, e => by
    unfold strsV at e
    cases q : strsV r with
    | none => rw [q] at e; cases e
    | some ws =>
      rw [q] at e
      cases e
      rw [strsV_ok t q]
      rfl
theorem strsV_map : ∀ zs : List Str, strsV (zs.map LV.str) = some zs
  | [] => rfl
  | z :: r => by
    show (strsV (r.map LV.str)).map (z :: ·) = _
    rw [strsV_map r]
    rfl
def gJoin : LMR := fun x xs h L => match x, xs with
  | .str a, [y] => (match lstOf h y with
    | some ys => (match strsV ys with
      | some zs => (zs.map (·.length)).sum + zs.length * a.length ≤ 1000000 ∧ L (.str (Txt.join a zs)) h
      | none => False)
    | none => False)
  | _, _ => False
def rJoin (K : PySem.W.Frag) : V → List V → Hp → VK → Prop := fun x xs H Q => ∃ a p, ∃ ys : List Str, x = .str a ∧ xs = [.ref p] ∧ (SqL K H p (ys.map V.str) ∨ SqT K H p (ys.map V.str)) ∧ (ys.map (·.length)).sum + ys.length * a.length ≤ 16777216 ∧ Q (.str (Txt.join a ys)) H
theorem mt_joinK {X : Cx} : MtR X "str.join" (rJoin X.K) := mt_join
theorem srm_join {K : PySem.W.Frag} : SRM K (rJoin K) gJoin := fun H h x xs v vs L Q rh rx rxs g o => by
  unfold gJoin at g
  split at g
  · rename_i a y
    cases rx
    cases rxs with
    | cons r1 t =>
      cases t
      split at g
      · rename_i ys e1
        split at g
        · rename_i zs e2
          obtain ⟨p, us, rfl, hs, hr⟩ := lstOf_ok rh r1 e1
          have e3 := strsV_ok hr e2
          subst e3
          exact ⟨a, p, zs, rfl, rfl, .inl hs, by omega, o _ H _ h (.refl H) rh (.str _) g.2⟩
        · exact g.elim
      · exact g.elim
  · exact g.elim
theorem i_join {a : Str} {b : Addr} {zs : List Str} {h : LH} {L : LK} (e : h b = some (.lst (zs.map .str))) (hz : (zs.map (·.length)).sum + zs.length * a.length ≤ 1000000) (q : L (.str (Txt.join a zs)) h) : gJoin (.str a) [.ref b] h L := by
  unfold gJoin
  dsimp only
  rw [lstOf_lst e]
  dsimp only
  rw [strsV_map]
  exact ⟨hz, q⟩
def chr1 (c : Nat) : Str := ⟨#[c]⟩
theorem join_chr : ∀ cs : List Nat, (Txt.join (Str.ofString "") (cs.map chr1)).cps.toList = cs := fun cs => by
  rw [TL.join_eq]
  have e : ∀ cs : List Nat, (PySem.Str.join (Str.ofString "") (cs.map chr1)).cps.toList = cs := fun cs => by
    have h := TL.tl_join (Str.ofString "") (cs.map chr1)
    have k : ∀ cs : List Nat, TL.joinL [] ((cs.map chr1).map TL.tl) = cs := fun cs => by
      induction cs with
      | nil => rfl
      | cons c r ih =>
        cases r with
        | nil => rfl
        | cons d r => exact congrArg (c :: ·) ih
    exact h.trans (k cs)
  exact e cs
theorem join_chr_sum : ∀ cs : List Nat, ((cs.map chr1).map (·.length)).sum = cs.length
  | [] => rfl
  | c :: r => by
    rw [List.map_cons, List.map_cons, List.sum_cons, join_chr_sum r, List.length_cons]
    show 1 + _ = _
    omega
/-! ### a name's digits, every fourth added -/
def sumP (ds : List Int) (n p : Nat) : Int := (pickL ds ((List.range n).filter fun j => j % 4 == p)).sum % 16
theorem sumP_succ {ds : List Int} {n p : Nat} (h : n < ds.length) : sumP ds (n + 1) p = if n % 4 = p then (sumP ds n p + gI ds n) % 16 else sumP ds n p := by
  have eg : gI ds n = ds[n] := gI_nat h
  unfold sumP
  rw [List.range_succ, List.filter_append]
  by_cases hp : n % 4 = p
  · rw [if_pos hp, List.filter_cons_of_pos (by rw [hp]; exact beq_self_eq_true p), List.filter_nil]
    have e : pickL ds (((List.range n).filter fun j => j % 4 == p) ++ [n]) = pickL ds ((List.range n).filter fun j => j % 4 == p) ++ [ds[n]] := by
      unfold pickL
      rw [List.filterMap_append, List.filterMap_cons, List.getElem?_eq_getElem h]
      rfl
    rw [e, List.sum_append, List.sum_cons, List.sum_nil, eg]
    omega
  · rw [if_neg hp, List.filter_cons_of_neg (by intro c; exact hp (eq_of_beq c)), List.filter_nil, List.append_nil]
theorem own_pick {ds : List Int} : ∀ n, n ≤ ds.length → (List.range n).foldl (ownStep ds) [0, 0, 0, 0] = [sumP ds n 0, sumP ds n 1, sumP ds n 2, sumP ds n 3]
  | 0, _ => rfl
  | n + 1, h => by
    rw [List.range_succ, List.foldl_append, own_pick n (Nat.le_of_succ_le h)]
    rw [sumP_succ h, sumP_succ h, sumP_succ h, sumP_succ h]
    show ownStep ds _ n = _
    unfold ownStep
    have hm : n % 4 = 0 ∨ n % 4 = 1 ∨ n % 4 = 2 ∨ n % 4 = 3 := by omega
    have hi : (n : Int) % 4 = ((n % 4 : Nat) : Int) := by omega
    rw [hi]
    rcases hm with e | e | e | e <;> rw [e] <;> rfl
theorem own_sums {ds : List Int} : ownF ds = (List.range 4).map (sumP ds ds.length) := own_pick ds.length (Nat.le_refl _)
theorem atI_letters : ∀ k : Fin 26, atI (letters : Str).cps.toList (k.val : Int) = some (97 + k.val) := by decide +kernel
theorem letters_at {d : Int} (h0 : 0 ≤ d) (h1 : d < 26) : atI ("abcdefghijklmnopqrstuvwxyz" : Str).cps.toList d = some (97 + d.toNat) := by
  have e := atI_letters ⟨d.toNat, by omega⟩
  have e2 : ((d.toNat : Nat) : Int) = d := by omega
  rw [← e, e2]
  rfl
/-- the table, turned by some places -/
theorem rot_perm {tab : List Int} (h : tab.Perm (rgL 16)) (n : Nat) : (tab.drop n ++ tab.take n).Perm (rgL 16) := (List.perm_append_comm.trans (by rw [List.take_append_drop])).trans h
theorem keyF_len {tab key : List Int} {z : Str} : (keyF tab key z).length = 4 := by unfold keyF; rw [codedF_length, own_sums]; rfl
theorem keyF_digs {tab key : List Int} {z : Str} (T : Tab tab) : Digs (keyF tab key z) := codedF_digs T (by
  rw [own_sums]
  intro x hx
  obtain ⟨p, _, rfl⟩ := List.mem_map.mp hx
  exact ⟨Int.emod_nonneg _ (by decide), Int.emod_lt_of_pos _ (by decide)⟩)
theorem cutL_from {xs : List LV} {i : Int} (h0 : 0 ≤ i) : cutL xs (some i) none = xs.drop i.toNat := by
  have e : i = ((i.toNat : Nat) : Int) := by omega
  have e2 : HT.sIx xs.length 0 (some i) = min i.toNat xs.length := by
    conv => lhs; rw [e]
    exact HT.sIx_nat _ _ _
  unfold cutL
  rw [e2, HT.sIx_none]
  by_cases h : i.toNat ≤ xs.length
  · rw [Nat.min_eq_left h]
    exact List.take_of_length_le (by rw [List.length_drop]; omega)
  · rw [Nat.min_eq_right (by omega), List.drop_eq_nil_of_le (Nat.le_refl _), List.drop_eq_nil_of_le (by omega), List.take_nil]
theorem cutL_to {xs : List LV} {i : Int} (h0 : 0 ≤ i) : cutL xs none (some i) = xs.take i.toNat := by
  have e : i = ((i.toNat : Nat) : Int) := by omega
  have e2 : HT.sIx xs.length xs.length (some i) = min i.toNat xs.length := by
    conv => lhs; rw [e]
    exact HT.sIx_nat _ _ _
  unfold cutL
  rw [e2, HT.sIx_none, List.drop_zero, Nat.sub_zero]
  by_cases h : i.toNat ≤ xs.length
  · rw [Nat.min_eq_left h]
  · rw [Nat.min_eq_right (by omega), List.take_of_length_le (Nat.le_refl _), List.take_of_length_le (by omega)]
theorem rot_map {tab : List Int} {i : Int} (h0 : 0 ≤ i) : cutL (tab.map LV.int) (some i) none ++ cutL (tab.map LV.int) none (some i) = (tab.drop i.toNat ++ tab.take i.toNat).map .int := by
  rw [cutL_from h0, cutL_to h0, List.map_append, List.map_drop, List.map_take]
end VL

set_option Elab.async false
set_option linter.all false
set_option maxRecDepth 100000
set_option maxHeartbeats 4000000
/-! dicts that are walked, under a lock -/
namespace VL
open PySem PySem.Spec PyProof.Rows L2
abbrev Fz := Obj × List (Key × V)
def keyL : Key → LV
  | .inl i => .int i
  | .inr z => .str z
theorem keyL_ok {K : PySem.W.Frag} {H : Hp} : ∀ k : Key, RV K H (keyL k) (kV k)
  | .inl i => .int i
  | .inr z => .str z
/-- an expression, a statement within which one dict is locked -/
def lLockE (l : LTE) : LTE := fun s h E L => ∃ a kvs, h a = some (.dic kvs) ∧ ∀ f : Fz, l s (up h a (.fdi f kvs)) X0 fun x h' => h' a = some (.fdi f kvs) ∧ L x (up h' a (.dic kvs))
def lLockS (l : LTS) : LTS := fun D s h => ∃ a kvs, h a = some (.dic kvs) ∧ ∀ f : Fz, l ⟨fun s' h' => h' a = some (.fdi f kvs) ∧ D.nx s' (up h' a (.dic kvs)), fun x h' => h' a = some (.fdi f kvs) ∧ D.rt x (up h' a (.dic kvs)), fun _ _ _ _ => False, fun s' h' => h' a = some (.fdi f kvs) ∧ D.bk s' (up h' a (.dic kvs)), fun s' h' => h' a = some (.fdi f kvs) ∧ D.ct s' (up h' a (.dic kvs))⟩ s (up h a (.fdi f kvs))
section
variable {K : PySem.W.Frag} {H H' : Hp} {h h' : LH} {a : Addr} {kvs : List (Key × LV)}
theorem lock_tle {ws : List (Key × V)} {o : HO} (e : H a = some (.dK ws)) : TLe K H (L2.upd H a o) := .dK e
theorem lock_rh {ws : List (Key × V)} {od : Obj} (rh : RH K H h) (e : H a = some (.dK ws)) (r : RKs K H id kvs ws) : RH K (L2.upd H a (.frz od (.dK ws))) (up h a (.fdi (od, ws) kvs)) :=
  rh.upd (lock_tle e) ⟨upd_same, r.mono (lock_tle e)⟩
theorem unlock_tle {ws : List (Key × V)} {od : Obj} {u : HO} (e : H a = some (.frz od (.dK ws))) : TLe K H (L2.upd H a u) := ⟨fun b vs z => by
    rcases z with (z | ⟨o, z⟩) | z
    · have n : b ≠ a := fun q => by subst q; rw [e] at z; cases z
      exact .inl (.inl (by rw [upd_ne n]; exact z))
    · have n : b ≠ a := fun q => by subst q; rw [e] at z; cases z
      exact .inl (.inr ⟨o, by rw [upd_ne n]; exact z⟩)
    · exact .inr z, fun b vs z => by
    rcases z with ⟨o, z⟩ | z
    · have n : b ≠ a := fun q => by subst q; rw [e] at z; cases z
      exact .inl ⟨o, by rw [upd_ne n]; exact z⟩
    · exact .inr z, fun b fs z => by
    have n : b ≠ a := fun q => by subst q; rw [e] at z; cases z
    rw [upd_ne n]; exact z, fun b φ z => by
    have n : b ≠ a := fun q => by subst q; rw [e] at z; cases z
    rw [upd_ne n]; exact z, fun b vs ⟨ob, z, hd⟩ => by
    have n : b ≠ a := fun q => by subst q; rw [e] at z; cases z
    exact ⟨ob, by rw [upd_ne n]; exact z, hd⟩⟩
theorem unlock_rh {ws : List (Key × V)} {od : Obj} (rh : RH K H h) (e : h a = some (.fdi (od, ws) kvs)) : RH K (L2.upd H a (.dK ws)) (up h a (.dic kvs)) := by
  obtain ⟨e1, q1⟩ := rh a _ e
  exact rh.upd (unlock_tle e1) (.mkD upd_same (q1.mono (unlock_tle e1)))
end
section
variable {X : Cx} {W : WX}
theorem le_lock {e : Expr} {l : LTE} (hl : LE X W0 e l) : LE X W e (lLockE l) :=
  peW (pe_lock hl) fun σ H Q ⟨s, h, E, L, z, ⟨a, kvs, ea, q⟩, out⟩ => by
    obtain ⟨ws, e1, r1⟩ := z.rh a _ ea
    refine ⟨a, .dK ws, e1, trivial, fun od => ?_⟩
    have t1 : TLe X.K H (L2.upd H a (.frz od (.dK ws))) := lock_tle e1
    refine ⟨s, _, X0, _, ⟨z.rs.mono t1, lock_rh z.rh e1 r1, fun _ _ _ _ _ _ _ _ q => q.elim⟩, q (od, ws), fun v H2 x h2 t2 r2 rx ⟨e2, q2⟩ => ?_⟩
    obtain ⟨e3, r3⟩ := r2 a _ e2
    have t3 : TLe X.K H2 (L2.upd H2 a (.dK ws)) := unlock_tle e3
    exact ⟨e3, out v _ x _ ((t1.trans t2).trans t3) (unlock_rh r2 e2) (rx.mono t3) q2⟩
theorem ls_lock {st : Stmt} {l : LTS} (hl : LSt X W0 st l) : LSt X W st (lLockS l) :=
  psW (ps_lock hl) fun D σ H ⟨s, h, LD, rs, rh, ⟨a, kvs, ea, q⟩, out⟩ => by
    obtain ⟨ws, e1, r1⟩ := rh a _ ea
    refine ⟨a, .dK ws, e1, trivial, fun od => ?_⟩
    have t1 : TLe X.K H (L2.upd H a (.frz od (.dK ws))) := lock_tle e1
    refine ⟨s, _, _, rs.mono t1, lock_rh rh e1 r1, q (od, ws), ?_⟩
    have nk : ∀ {N : L2.St → Hp → Prop} {M : LS → LH → Prop}, OutN X.K H N M → OutN X.K (L2.upd H a (.frz od (.dK ws))) (fun σ' H' => H' a = some (.frz od (.dK ws)) ∧ N σ' (L2.upd H' a (.dK ws))) (fun s' h' => h' a = some (.fdi (od, ws) kvs) ∧ M s' (up h' a (.dic kvs))) := fun o σ2 H2 s2 h2 t2 rs2 r2 ⟨e2, q2⟩ => by
      obtain ⟨e3, r3⟩ := r2 a _ e2
      have t3 : TLe X.K H2 (L2.upd H2 a (.dK ws)) := unlock_tle e3
      exact ⟨e3, o σ2 _ s2 _ ((t1.trans t2).trans t3) (rs2.mono t3) (unlock_rh r2 e2) q2⟩
    refine ⟨nk out.nx, fun v H2 x h2 t2 r2 rx ⟨e2, q2⟩ => ?_, fun _ _ _ _ _ _ _ _ _ _ _ q => q.elim, nk out.bk, nk out.ct⟩
    obtain ⟨e3, r3⟩ := r2 a _ e2
    have t3 : TLe X.K H2 (L2.upd H2 a (.dK ws)) := unlock_tle e3
    exact ⟨e3, out.rt v _ x _ ((t1.trans t2).trans t3) (unlock_rh r2 e2) (rx.mono t3) q2⟩
end
/-! ### keys, values, pairs of a locked dict -/
open Classical in
noncomputable def itF (f : Fz) (kvs : List (Key × LV)) (g : Key × LV → LV) (a : Addr) : LIt := fun i h => if h a = some (.fdi f kvs) then some (kvs[i]?.map g) else none
def liF (g : Key × LV → LV) (l : LTE) : LTI := fun s h E L => l s h E fun x h1 => match x with
  | .ref a => (match h1 a with
    | some (.fdi f kvs) => L (itF f kvs g a) h1
    | _ => False)
  | _ => False
def liKeys (l : LTE) : LTI := liF (fun kv => keyL kv.1) l
def liVals (l : LTE) : LTI := liF (fun kv => kv.2) l
def liItems (l : LTE) : LTI := liF (fun kv => .tup [keyL kv.1, kv.2]) l
theorem RKs.at {K : PySem.W.Frag} {H : Hp} {α : Type} : ∀ {kvs : List (α × LV)} {ws : List (α × V)} {i : Nat} {kv : α × LV}, RKs K H id kvs ws → kvs[i]? = some kv → ∃ v, ws[i]? = some (kv.1, v) ∧ RV K H kv.2 v
  | _, _, _, _, .nil, e => by simp at e
  | _, _, 0, _, .cons r _, e => by simp at e; subst e; exact ⟨_, rfl, r⟩
  | _, _, i + 1, kv, .cons _ t, e => by
    obtain ⟨v, h1, h2⟩ := RKs.at (i := i) (kv := kv) t (by simpa using e)
    exact ⟨v, by simpa using h1, h2⟩
section
variable {X : Cx} {W : WX} {tg e : Expr} {l : LTE} {apos cpos tpos : Pos}
theorem li_keys (hl : LE X W e l) : LI X W tg e (liKeys l) := piW (pi_keys hl) fun σ H R ⟨s, h, E, L, z, q, out⟩ => ⟨s, h, E, _, z, q, fun v H1 x h1 t1 r1 rx q1 => by
  split at q1
  · rename_i a
    cases rx
    split at q1
    · rename_i f kvs ea
      obtain ⟨o, ws⟩ := f
      obtain ⟨e1, k1⟩ := r1 a _ ea
      refine ⟨a, o, rfl, .inl ⟨ws, e1, out _ H1 _ h1 t1 r1 (fun i H2 h2 t2 r2 => ?_) q1⟩⟩
      unfold itF
      by_cases hc : h2 a = some (.fdi (o, ws) kvs)
      · rw [if_pos hc]
        obtain ⟨e2, k2⟩ := r2 a _ hc
        have hlen := k2.length
        cases ek : kvs[i]? with
        | none => exact ⟨e2, by rw [← hlen]; exact List.getElem?_eq_none_iff.mp ek⟩
        | some kv =>
          obtain ⟨w, hw, rw'⟩ := k2.at ek
          refine ⟨⟨e2, (List.getElem?_eq_some_iff.mp hw).1⟩, fun y H3 ⟨e3, k, v3, hy, ey⟩ => ?_⟩
          subst e3
          rw [hw] at hy
          cases hy
          subst ey
          exact ⟨.refl _, r2, keyL_ok _⟩
      · rw [if_neg hc]; trivial
    · exact q1.elim
  · exact q1.elim⟩
theorem li_vals (hl : LE X W e l) (hbase : attributeBase e "values" X.env (eval e X.env) = eval e X.env := by rfl) (hline : (apos.endLine == cpos.line) = true := by rfl) : LI X W tg (.Call (.Attribute e "values" apos) [] [] cpos) (liVals l) := piW (pi_values hl hbase hline) fun σ H R ⟨s, h, E, L, z, q, out⟩ => ⟨s, h, E, _, z, q, fun v H1 x h1 t1 r1 rx q1 => by
  split at q1
  · rename_i a
    cases rx
    split at q1
    · rename_i f kvs ea
      obtain ⟨o, ws⟩ := f
      obtain ⟨e1, k1⟩ := r1 a _ ea
      refine ⟨a, o, ws, rfl, e1, out _ H1 _ h1 t1 r1 (fun i H2 h2 t2 r2 => ?_) q1⟩
      unfold itF
      by_cases hc : h2 a = some (.fdi (o, ws) kvs)
      · rw [if_pos hc]
        obtain ⟨e2, k2⟩ := r2 a _ hc
        have hlen := k2.length
        cases ek : kvs[i]? with
        | none => exact ⟨e2, by rw [← hlen]; exact List.getElem?_eq_none_iff.mp ek⟩
        | some kv =>
          obtain ⟨w, hw, rw'⟩ := k2.at ek
          refine ⟨⟨e2, (List.getElem?_eq_some_iff.mp hw).1⟩, fun y H3 ⟨e3, k, hy⟩ => ?_⟩
          subst e3
          rw [hw] at hy
          cases hy
          exact ⟨.refl _, r2, rw'⟩
      · rw [if_neg hc]; trivial
    · exact q1.elim
  · exact q1.elim⟩
theorem li_items {elts : List Expr} {kk : Nat} (hl : LE X W e l) (hbase : attributeBase e "items" X.env (eval e X.env) = eval e X.env := by rfl) (hline : (apos.endLine == cpos.line) = true := by rfl) : LI X W (.Tuple elts kk tpos) (.Call (.Attribute e "items" apos) [] [] cpos) (liItems l) := piW (pi_items hl hbase hline) fun σ H R ⟨s, h, E, L, z, q, out⟩ => ⟨s, h, E, _, z, q, fun v H1 x h1 t1 r1 rx q1 => by
  split at q1
  · rename_i a
    cases rx
    split at q1
    · rename_i f kvs ea
      obtain ⟨o, ws⟩ := f
      obtain ⟨e1, k1⟩ := r1 a _ ea
      refine ⟨a, o, ws, rfl, e1, out _ H1 _ h1 t1 r1 (fun i H2 h2 t2 r2 => ?_) q1⟩
      unfold itF
      by_cases hc : h2 a = some (.fdi (o, ws) kvs)
      · rw [if_pos hc]
        obtain ⟨e2, k2⟩ := r2 a _ hc
        have hlen := k2.length
        cases ek : kvs[i]? with
        | none => exact ⟨e2, by rw [← hlen]; exact List.getElem?_eq_none_iff.mp ek⟩
        | some kv =>
          obtain ⟨w, hw, rw'⟩ := k2.at ek
          refine ⟨⟨e2, (List.getElem?_eq_some_iff.mp hw).1⟩, fun y H3 ⟨T, k, v3, hy, ey, hT, e3⟩ => ?_⟩
          subst e3 ey
          rw [hw] at hy
          cases hy
          exact ⟨.new hT, r2.new hT, pair_new hT (keyL_ok _) rw'⟩
      · rw [if_neg hc]; trivial
    · exact q1.elim
  · exact q1.elim⟩
end
/-! ### dict(a list of pairs) -/
def pairsP : List LV → Option (List (Key × LV))
  | [] => some []
  | .tup [x, y] :: r => (match keyOf x, pairsP r with
    | some k, some kvs => some ((k, y) :: kvs)
    | _, _ => none)
  | _ => none
theorem pairsP_ok {K : PySem.W.Frag} {H : Hp} : ∀ {ys : List LV} {vs : List V} {kvs : List (Key × LV)}, RVs K H ys vs → pairsP ys = some kvs → ∃ (ps : List Addr) (ws : List (Key × V)), vs = ps.map V.ref ∧ Paired (fun p (kv : Key × V) => SqT K H p [kV kv.1, kv.2]) ps ws ∧ RKs K H id kvs ws
  | [], _, _, .nil, e => by
    cases e
    exact ⟨[], [], rfl, .nil, .nil⟩
  | y :: r, _, kvs, .cons ry t, e => by
    cases y with
    | tup zs =>
      match zs, ry, e with
      | [x, y], ry, e =>
        unfold pairsP at e
        cases ek : keyOf x with
        | none => rw [ek] at e; cases e
        | some k =>
          rw [ek] at e
          cases er : pairsP r with
          | none => rw [er] at e; cases e
          | some kr =>
            rw [er] at e
            cases e
            obtain ⟨ps, ws, e1, p1, k1⟩ := pairsP_ok t er
            cases ry with
            | tup ht hr =>
              cases hr with
              | cons rx hr =>
                cases hr with
                | cons ry hr =>
                  cases hr
                  have e2 := keyOf_ok rx ek
                  subst e1 e2
                  exact ⟨_ :: ps, (k, _) :: ws, rfl, .cons ht p1, .cons ry k1⟩
      | [], _, e => cases e
      | [_], _, e => cases e
      | _ :: _ :: _ :: _, _, e => cases e
    | _ => cases e
def gDictP : LCR := fun xs h L => match xs with
  | [.ref a] => (match h a with
    | some (.lst ys) => (match pairsP ys with
      | some kvs => cNew (.dic (mergeL [] kvs)) L h
      | none => False)
    | _ => False)
  | _ => False
def rDictP (K : PySem.W.Frag) : List V → Hp → VK → Prop := fun xs H Q => ∃ (a : Addr) (ps : List Addr) (kvs : List (Key × V)), xs = [.ref a] ∧ SqL K H a (ps.map V.ref) ∧ Paired (fun p (kv : Key × V) => SqT K H p [kV kv.1, kv.2]) ps kvs ∧ ∀ p, H p = none → Q (.ref p) (L2.upd H p (.dK (mergeK [] kvs)))
theorem call_dictPP {X : Cx} (hc : X.calm = true) : CallR X (.type "dict") (rDictP X.K) := call_dictP hc
theorem src_dictP {K : PySem.W.Frag} : SRC K (rDictP K) gDictP := fun H h xs vs L Q rh rx g o => by
  unfold gDictP at g
  split at g
  · rename_i a
    cases rx with
    | cons r1 t =>
      cases t
      cases r1
      split at g
      · rename_i ys ea
        split at g
        · rename_i kvs ek
          obtain ⟨us, e1, r1⟩ := rh a _ ea
          obtain ⟨ps, ws, e2, p2, k2⟩ := pairsP_ok r1 ek
          subst e2
          refine ⟨a, ps, ws, rfl, .of e1, p2, fun p hp => ?_⟩
          exact o _ _ (.ref p) _ (.new hp) (rh.lay hp (.mkD upd_same ((merge_ok k2 .nil).mono (.new hp)))) (.ref p) (g p (rh.fresh hp))
        · exact g.elim
      · exact g.elim
  · exact g.elim
theorem s_dictP {a : Addr} {ys : List LV} {kvs kv2 : List (Key × LV)} {h : LH} {L : LK} (e : h a = some (.lst ys)) (ek : pairsP ys = some kvs) (em : mergeL [] kvs = kv2) (q : cNew (.dic kv2) L h) : gDictP [.ref a] h L := by
  subst em
  unfold gDictP
  dsimp only
  rw [e]
  dsimp only
  rw [ek]
  exact q
theorem merge_app {α : Type} (f : α → LV) : ∀ (es ds : List (Str × α)), (∀ p ∈ es, ∀ d ∈ ds, d.1 ≠ p.1) → (es.map (·.1)).Nodup → mergeL (dmap f ds) (dmap f es) = dmap f (ds ++ es)
  | [], ds, _, _ => by rw [List.append_nil]; rfl
  | p :: r, ds, hd, hn => by
    rw [List.map_cons, List.nodup_cons] at hn
    have e1 : dput (dmap f ds) (.inr p.1) (f p.2) = dmap f (ds ++ [p]) := by
      unfold dput
      rw [dmap_any, if_neg]
      · unfold dmap
        rw [List.map_append]
        rfl
      · intro q
        obtain ⟨d, hd2, e2⟩ := List.any_eq_true.mp q
        exact hd p List.mem_cons_self d hd2 (of_decide_eq_true e2)
    have ih := merge_app f r (ds ++ [p]) (fun q hq d hd2 => by
      rcases List.mem_append.mp hd2 with h | h
      · exact hd q (List.mem_cons_of_mem _ hq) d h
      · rw [List.mem_singleton.mp h]
        intro e
        exact hn.1 (by rw [e]; exact List.mem_map.mpr ⟨q, hq, rfl⟩)) hn.2
    rw [List.append_assoc] at ih
    show mergeL (dput (dmap f ds) (.inr p.1) (f p.2)) (dmap f r) = _
    rw [e1]
    exact ih
theorem merge_new {α : Type} (f : α → LV) {es : List (Str × α)} (h : (es.map (·.1)).Nodup) : mergeL [] (dmap f es) = dmap f es := merge_app f es [] (fun _ _ _ h => absurd h List.not_mem_nil) h
/-! ### words -/
section
variable {nx bk ct : LS → LH → Prop} {rt : LK} {ex : SX} {s : LS} {h : LH} {E : LX} {L : LK} {l : LTE} {ls : LTS} {a : Addr} {kvs : List (Key × LV)} {Ps Qs : List HP} {g : Key × LV → LV} {KI : LIt → LH → Prop} {f : Fz}
/-- the dict at a is locked -/
theorem s_lockE (H : stars Ps h) (k : Ent Ps (pts a (.dic kvs) :: Qs)) (q : ∀ (f : Fz) h', stars (pts a (.fdi f kvs) :: Qs) h' → l s h' X0 fun x h2 => h2 a = some (.fdi f kvs) ∧ L x (up h2 a (.dic kvs))) : lLockE l s h E L :=
  ⟨a, kvs, stars_get0 (k _ H), fun f => q f _ (stars_up0 (k _ H))⟩
theorem s_lockX {x : LV} (H : stars Ps h) (k : Ent Ps (pts a (.fdi f kvs) :: Qs)) (q : ∀ h', stars (pts a (.dic kvs) :: Qs) h' → L x h') : h a = some (.fdi f kvs) ∧ L x (up h a (.dic kvs)) :=
  ⟨stars_get0 (k _ H), q _ (stars_up0 (k _ H))⟩
theorem s_lockS (H : stars Ps h) (k : Ent Ps (pts a (.dic kvs) :: Qs)) (q : ∀ (f : Fz) h', stars (pts a (.fdi f kvs) :: Qs) h' → ls ⟨fun s' h' => h' a = some (.fdi f kvs) ∧ nx s' (up h' a (.dic kvs)), fun x h' => h' a = some (.fdi f kvs) ∧ rt x (up h' a (.dic kvs)), fun _ _ _ _ => False, fun s' h' => h' a = some (.fdi f kvs) ∧ bk s' (up h' a (.dic kvs)), fun s' h' => h' a = some (.fdi f kvs) ∧ ct s' (up h' a (.dic kvs))⟩ s h') : lLockS ls ⟨nx, rt, ex, bk, ct⟩ s h :=
  ⟨a, kvs, stars_get0 (k _ H), fun f => q f _ (stars_up0 (k _ H))⟩
theorem s_unlock {N : LH → Prop} (H : stars Ps h) (k : Ent Ps (pts a (.fdi f kvs) :: Qs)) (q : ∀ h', stars (pts a (.dic kvs) :: Qs) h' → N h') : h a = some (.fdi f kvs) ∧ N (up h a (.dic kvs)) :=
  ⟨stars_get0 (k _ H), q _ (stars_up0 (k _ H))⟩
def gLiF (g : Key × LV → LV) : LV → LH → (LIt → LH → Prop) → Prop := fun x h1 L => match x with
  | .ref a => (match h1 a with
    | some (.fdi f kvs) => L (itF f kvs g a) h1
    | _ => False)
  | _ => False
theorem i_liF (q : l s h E fun x h1 => gLiF g x h1 KI) : liF g l s h E KI := q
theorem i_gLiF (e : h a = some (.fdi f kvs)) (q : KI (itF f kvs g a) h) : gLiF g (.ref a) h KI := by
  unfold gLiF
  dsimp only
  rw [e]
  exact q
theorem itF_get {i : Nat} (e : h a = some (.fdi f kvs)) : itF f kvs g a i h = some (kvs[i]?.map g) := by
  unfold itF
  rw [if_pos e]
end
section
variable {nx bk ct : LS → LH → Prop} {rt : LK} {ex : SX} {s : LS} {h : LH} {E : LX} {L : LK} {a : Addr} {kvs : List (Key × LV)} {Ps Qs : List HP} {g : Key × LV → LV} {f : Fz} {lt : LTT} {le : LTE}
theorem itF_if {i : Nat} (e : h a = some (.fdi f kvs)) : itF f kvs g a i h = if i < (kvs.map g).length then some (some ((kvs.map g).getD i .non)) else some none := by
  rw [itF_get e]
  have z := itSt_get (xs := kvs.map g) (i := i) (h := h)
  unfold itSt at z
  rw [List.getElem?_map] at z
  exact z
theorem s_lcK {nt : NT} {vs : List Nat} {ff : LV → LS} (G : Nat → List LV → List HP → Prop) (H : stars Ps h) (keep : ∀ D i acc Qs h', G i acc Qs → stars (pts D (.lst acc) :: Qs) h' → h' a = some (.fdi f kvs)) (ef : ∀ x, nt.put x (lwipe s vs) = some (ff x)) (q0 : ∃ Qs, Ent Ps Qs ∧ G 0 [] Qs)
    (step : ∀ D i kv acc Qs h', kvs[i]? = some kv → i < kvs.length → acc.length ≤ i → G i acc Qs → stars (pts D (.lst acc) :: Qs) h' → lt (ff (g kv)) h' X0 fun b h3 => if b = true then le (ff (g kv)) h3 X0 (gApp kvs.length D G i) else gInv kvs.length D G (i + 1) h3)
    (stop : ∀ D acc Qs h', acc.length ≤ kvs.length → G kvs.length acc Qs → stars (pts D (.lst acc) :: Qs) h' → L (.ref D) h') : kLc nt lt le vs s (itF f kvs g a) h L := by
  have hl : (kvs.map g).length = kvs.length := List.length_map ..
  refine s_lcF (m := kvs.length) (item := fun i => (kvs.map g).getD i .non) G H (fun D i acc Qs h' hi k hs => ?_) (fun i => ef _) q0 (fun D i acc Qs h' h1 h2 h3 h4 => ?_) stop
  · have e := itF_if (g := g) (i := i) (keep D i acc Qs h' k hs)
    rw [hl] at e
    exact e
  · obtain ⟨kv, e⟩ := get_of (xs := kvs) (i := i) h1
    have e2 : (kvs.map g).getD i .non = g kv := by rw [List.getD_eq_getElem?_getD, List.getElem?_map, e]; rfl
    rw [e2]
    exact step D i kv acc Qs h' e h1 h2 h3 h4
theorem s_lcKM {nt : NT} {vs : List Nat} {ff : LV → LS} (g2 : Key × LV → LV) (H : stars Ps h) (kp : Pk Ps (pts a (.fdi f kvs)) Qs) (ef : ∀ x, nt.put x (lwipe s vs) = some (ff x)) (hz : kvs.length ≤ 100000)
    (pure : ∀ D acc kv h' K, kv ∈ kvs → stars (pts D (.lst acc) :: Ps) h' → K (g2 kv) h' → le (ff (g kv)) h' X0 K) (q : ∀ D h', stars (pts D (.lst (kvs.map g2)) :: Ps) h' → L (.ref D) h') : kLc nt lYes le vs s (itF f kvs g a) h L := by
  refine s_lcK (fun i acc Qs => acc = (kvs.take i).map g2 ∧ Qs = Ps) H (fun D i acc Qs' h' hg hs => by rw [hg.2] at hs; exact stars_get hs kp.there) ef ⟨_, Ent.refl, rfl, rfl⟩ (fun D i kv acc Qs h' ex hi hl hg hs => ?_) (fun D acc Qs h' hl hg hs => ?_)
  · obtain ⟨rfl, rfl⟩ := hg
    refine pure D _ kv h' _ (List.mem_of_getElem? ex) hs ?_
    refine gApp.mk hs .here hl hi hz ⟨?_, rfl⟩ Ent.refl
    obtain ⟨hi, rfl⟩ := List.getElem?_eq_some_iff.mp ex
    rw [List.take_succ_eq_append_getElem hi, List.map_append]
    rfl
  · obtain ⟨rfl, rfl⟩ := hg
    rw [List.take_length] at hs
    exact q D h' hs
theorem s_forK {gg : LTG} {lbody : LTS} (P : Nat → LS → LH → Prop) (keep : ∀ i s' h', P i s' h' → h' a = some (.fdi f kvs)) (p0 : P 0 s h) (stop : ∀ s' h', P kvs.length s' h' → nx s' h')
    (step : ∀ (i : Nat) kv s' h', kvs[i]? = some kv → P i s' h' → gg (g kv) s' h' ex fun s2 h2 => lbody ⟨P (i + 1), rt, ex, nx, P (i + 1)⟩ s2 h2) : kFor nx rt ex gg lbody s (itF f kvs g a) h := by
  have hl : (kvs.map g).length = kvs.length := List.length_map ..
  refine for_gen (n := kvs.length) (item := fun i => (kvs.map g).getD i .non) P (fun i s' h' hi p => ?_) p0 stop (fun i s' h' hi p => ?_)
  · have e := itF_if (g := g) (i := i) (keep i s' h' p)
    rw [hl] at e
    exact e
  · obtain ⟨kv, e⟩ := get_of (xs := kvs) (i := i) hi
    have e2 : (kvs.map g).getD i .non = g kv := by rw [List.getD_eq_getElem?_getD, List.getElem?_map, e]; rfl
    show gg ((kvs.map g).getD i .non) s' h' ex _
    rw [e2]
    exact step i kv s' h' e p
end
/-! ### the last counts, by names -/
abbrev dhi (es : Ents) : List (Key × LV) := dmap (fun e : En => LV.int e.last) es
section
variable {es : Ents} {z : Str} {e : En} {a : Addr} {h : LH} {L : LK} {Ps Qs : List HP}
theorem dhi_get : dget (dhi es) (.inr z) = (eget es z).map fun e => LV.int e.last := dmap_get
theorem dhi_put {ag v : Int} {w : Option (Int × Int)} : dput (dhi es) (.inr z) (.int v) = dhi (eput es z ⟨ag, v, w⟩) := dmap_put (f := fun e : En => LV.int e.last) (e := ⟨ag, v, w⟩)
theorem dhi_drop : ddrop (dhi es) (.inr z) = dhi (edrop es z) := by
  unfold ddrop edrop dhi dmap
  rw [List.filter_map]
  congr 1
  congr 1
  funext p
  show decide ((Sum.inr p.1 : Key) ≠ Sum.inr z) = decide (p.1 ≠ z)
  simp
theorem dhi_keys : ∀ {es : Ents}, keyStrs (dhi es) = some (names es)
  | [] => rfl
  | p :: r => by
    have ih : keyStrs (dhi r) = some (names r) := dhi_keys
    show keyStrs ((Sum.inr p.1, LV.int p.2.last) :: dhi r) = _
    unfold keyStrs
    rw [ih]
    rfl
theorem dhi_length : (dhi es).length = es.length := List.length_map ..
theorem i_ix_hi (ea : h a = some (.dic (dhi es))) (eq : eget es z = some e) (q : L (.int e.last) h) : gIx (.ref a) (.str z) h L := i_ix_dic ea rfl (v := .int e.last) (by rw [dhi_get, eq]; rfl) q
theorem i_in_hi {F : Bool → Bool} (ea : h a = some (.dic (dhi es))) (q : L (.bl (F (eget es z).isSome)) h) : gIn F (.str z) (.ref a) h L := by
  unfold gIn
  dsimp only
  rw [ea]
  dsimp only [keyOf]
  rw [dhi_get, Option.isSome_map]
  exact q
theorem i_dget_hi {v : Int} (ea : h a = some (.dic (dhi es))) (q : L (.int ((eget es z).elim v En.last)) h) : gDGet (some (.int v)) (.ref a) (.str z) h L := i_dgetG ea rfl (r := .int ((eget es z).elim v En.last)) (by
  rw [dhi_get]
  cases eget es z <;> rfl) q
/-- what is heard changes the last count just where it is let in -/
theorem due_case {D : Dm} (k : D.ok) {age c d : Int} : ((∃ w, (dueF D z age c d).1 = heldA w) ∧ dhi (dueF D z age c d).2.es = dhi D.es) ∨ ∃ e, eget D.es z = some e ∧ e.last < c ∧ dueF D z age c d = (openA z d, { D with es := eput D.es z ⟨age, c, none⟩ }) := by
  have same : ∀ {e e' : En}, eget D.es z = some e → e'.last = e.last → dhi (eput D.es z e') = dhi D.es := fun {e e'} q hl => by
    have e1 : dhi (eput D.es z e') = dput (dhi D.es) (.inr z) (.int e'.last) := (dhi_put (ag := e'.age) (v := e'.last) (w := e'.w)).symm
    have e2 : dhi (eput D.es z e) = dput (dhi D.es) (.inr z) (.int e.last) := (dhi_put (ag := e.age) (v := e.last) (w := e.w)).symm
    rw [e1, hl, ← e2, eput_same k.nd q]
  cases q : eget D.es z with
  | none =>
    rw [due_no q]
    exact .inl ⟨⟨_, rfl⟩, rfl⟩
  | some e =>
    by_cases ht : D.takes age ∧ ¬ age < e.age
    · rw [due_some q ht]
      have n1 := k.n1
      unfold countF
      by_cases h1 : c ≤ e.last
      · simp only [if_pos h1]
        exact .inl ⟨⟨_, rfl⟩, same q rfl⟩
      · simp only [if_neg h1]
        by_cases h2 : c ≤ e.last + D.near
        · simp only [if_pos h2]
          exact .inr ⟨e, rfl, by omega, by trivial⟩
        · simp only [if_neg h2]
          by_cases h3 : c ≤ e.last + D.far
          · simp only [if_pos h3]
            by_cases h4 : e.w = some (age, c - 1)
            · simp only [if_pos h4]
              exact .inr ⟨e, rfl, by omega, by trivial⟩
            · simp only [if_neg h4]
              exact .inl ⟨⟨_, rfl⟩, same q rfl⟩
          · simp only [if_neg h3]
            exact .inl ⟨⟨_, rfl⟩, same q rfl⟩
    · rw [due_not q ht]
      exact .inl ⟨⟨_, rfl⟩, rfl⟩
end
theorem eget_nd {es : Ents} (hn : (names es).Nodup) {p : Str × En} (h : p ∈ es) : eget es p.1 = some p.2 := by
  induction es with
  | nil => exact absurd h List.not_mem_nil
  | cons x r ih =>
    have hn2 : x.1 ∉ names r ∧ (names r).Nodup := List.nodup_cons.mp hn
    rw [eget_cons]
    rcases List.mem_cons.mp h with e | e
    · rw [e, if_pos rfl]
    · rw [if_neg fun c => hn2.1 (by rw [c]; exact List.mem_map.mpr ⟨p, e, rfl⟩)]
      exact ih hn2.2 e
def lastV : LV → LV
  | .tup [_, x, _] => x
  | _ => .non
theorem pairs_hi : ∀ es : Ents, pairsP ((dent es).map fun kv => LV.tup [keyL kv.1, lastV kv.2]) = some (dhi es)
  | [] => rfl
  | p :: r => by
    show pairsP (LV.tup [.str p.1, .int p.2.last] :: (dent r).map fun kv => LV.tup [keyL kv.1, lastV kv.2]) = _
    unfold pairsP
    rw [pairs_hi r]
    rfl
/-- presses that are kept, with count and deed -/
def kpV (tab : List Int) (keys : List (List Int)) (p : Pr) : LV := .tup [Pr.lv tab keys p, .int p.count, .int p.deed]
theorem Pr.lv_app {tab : List Int} {keys ks : List (List Int)} {p : Pr} (h : p.ok keys.length) : Pr.lv tab (keys ++ ks) p = Pr.lv tab keys p := by
  have h0 := h.a0
  have h1 := h.a1
  unfold Pr.lv
  rw [List.getD_eq_getElem?_getD, List.getD_eq_getElem?_getD, List.getElem?_append_left (by omega)]
theorem kpV_app {tab : List Int} {keys ks : List (List Int)} {ps : List Pr} (h : ∀ p ∈ ps, p.ok keys.length) : ps.map (kpV tab (keys ++ ks)) = ps.map (kpV tab keys) := List.map_congr_left fun p hp => by
  unfold kpV
  rw [Pr.lv_app (h p hp)]
theorem Pr.ok.app {n m : Nat} {p : Pr} (h : p.ok n) : p.ok (n + m) := ⟨h.nm, h.a0, by have := h.a1; omega, h.c0, h.c1, h.d0, h.d1⟩
/-- what is no newer than the last one is held, and changes nothing -/
theorem due_stale {D : Dm} (k : D.ok) {z : Str} {age c d : Int} (h : c ≤ (eget D.es z).elim 4095 En.last) : ∃ w, dueF D z age c d = (heldA w, D) := by
  cases q : eget D.es z with
  | none => exact ⟨_, due_no q⟩
  | some e =>
    rw [q] at h
    by_cases ht : D.takes age ∧ ¬ age < e.age
    · exact ⟨_, due_old k q ht h⟩
    · exact ⟨_, due_not q ht⟩
end VL

set_option Elab.async false
set_option linter.all false
set_option maxRecDepth 100000
set_option maxHeartbeats 4000000
/-! sets of ints, made of a list; sorted, counted -/
namespace VL
open PySem PySem.Spec PyProof.Rows L2
/-- what a set is when it is made -/
abbrev newSet (w : World) : Obj := { cls := .type "set", dict := none, data := .set #[] 0 (.fresh 0 0 (!w.params.followText "set-order")) }
section
variable {P : Program} {w : World} {A : Around} {E : Value → Shared → Prop} {s : Shared}
set_option maxHeartbeats 3200000 in
theorem set_of_list {l : Addr} {its : Array Value} (ks : List Int) {Q : Value → Shared → Prop} (nh : A.handled = none) (il : s.heap.IsList l its) (ia : IntsAre its.toList ks) (few : ks.length + 1 < scanBound)
    (q : ∀ (h2 : Heap) (tk n : Nat), SetR w h2 s.heap.objs.size (fun k => decide (k ∈ ks)) n → n ≤ ks.length → (∀ b o, s.heap.get? b = some o → h2.get? b = some o) → Q (.ref s.heap.objs.size) { s with heap := h2, toks := tk }) :
    wpAny (model P w) A (call (.type "set") [.ref l]) Q E s := by
  have size : its.size = ks.length := by
    have e := IntsAre.length ia
    rw [Array.length_toList] at e
    exact e
  obtain ⟨c0, tl0, m0⟩ := PySem.F.called_set.mro
  have made := PySem.F.called_set.made
  have sub := PySem.F.called_set.sub
  refine wpAny_call (codeAny_of_tree ?_)
  show wpAny _ _ (callAny (.type "set") _) _ _ _
  refine wpAny_pure ⟨Code.quiet_builtin _ (by decide +kernel), codeAny_builtin PySem.F.entry_type_call ?_⟩
  rw [Around.under_plain (weight_type_call_type "set" [.ref l] []) rfl]
  have n1 := PySem.F.called_set.notType
  have n2 := PySem.F.called_set.canCreate
  have n3 := F.typeCall_set_1 (.ref l)
  repeat (any_goals (first | assumption | wp_step))
  refine codeAny_mono (code_set_led1 (.ref l) (E := E) (Q₁ := fun v z => v = .ref s.heap.objs.size ∧ z = { s with heap := s.heap.push (newSet w) }) ⟨rfl, rfl⟩) fun r z hz => ?_
  cases r with
  | error e => exact hz
  | ok fl =>
    cases fl with
    | ret v =>
      obtain ⟨ev, ez⟩ := hz
      subst ev ez
      have at0 : (s.heap.push (newSet w)).get? s.heap.objs.size = some (newSet w) := Heap.get?_push_size _ rfl
      have ty0 : Shared.TypeIs { s with heap := s.heap.push (newSet w) } (.ref s.heap.objs.size) "set" := ⟨_, at0, rfl⟩
      have lk := PySem.F.called_set.init.lookup
      have bd := PySem.F.called_set.init.bind (.ref s.heap.objs.size)
      repeat (any_goals (first | assumption | wp_step))
      refine codeAny_mono (codeAny_call_builtin (R := wants (fun u z => u = .none ∧ ∃ h2 tk n, z = { s with heap := h2, toks := tk } ∧ SetR w h2 s.heap.objs.size (fun k => decide (k ∈ ks)) n ∧ n ≤ ks.length ∧
          (∀ b o, s.heap.get? b = some o → h2.get? b = some o)) E) PySem.F.called_set.init.plain PySem.F.entry_set_init (check_set_init_1 ty0 ?_)) fun r2 z2 hz2 => ?_
      · obtain ⟨ob, hob, oc, on, od⟩ := il
        obtain ⟨bc, bdict, bdata, bslots⟩ := ob
        simp only at oc od
        subst oc; subst od
        have hob2 : (s.heap.push (newSet w)).get? l = some { cls := .type "list", dict := bdict, data := .seq its on, slots := bslots } := Heap.get?_push_of_some _ hob
        have u1 := F.sub_list_set
        have u2 := F.sub_list_frozenset
        have u3 : (Value.type "list" == Value.type "dict") = false := by decide
        have il2 : (s.heap.push (newSet w)).IsList l its := ⟨_, hob2, rfl, on, rfl⟩
        unfold Builtin.«set.__init__» noKeywords Builtin.Frozenset.updateFrom
        generalize hIt : pyIter = It0
        wp_walk
        subst hIt
        refine wpAny_pyIter_list il2 ?_
        refine wpAny_bind (wpAny_runValue ?_)
        have lo : l < s.heap.objs.size := Heap.lt_size hob
        have nh3 : A.in1.in1.in1.handled = none := by simp [nh]
        have ne1 : l ≠ (s.heap.push (newSet w)).objs.size := by
          rw [Heap.size_push]; exact Nat.ne_of_lt (Nat.lt_succ_of_lt lo)
        have ne2 : s.heap.objs.size ∉ [(s.heap.push (newSet w)).objs.size, l] := by
          rw [Heap.size_push]; simp only [List.mem_cons, List.mem_singleton, List.not_mem_nil, or_false, not_or]
          exact ⟨Nat.ne_of_lt (Nat.lt_succ_self _), Nat.ne_of_gt lo⟩
        have vals : ∀ (i : Nat) (x : Value), its[i]? = some x → ∃ k t, ks[i]? = some k ∧ x = .int k t := fun i x hx => by
          have hi : i < ks.length := by rw [← size]; exact (Array.getElem?_eq_some_iff.mp hx).1
          obtain ⟨t, e⟩ := PyProof.Rows.IntsAre.int_at ia i x (by rw [Array.getElem?_toList]; exact hx)
          refine ⟨ks[i], t, List.getElem?_eq_getElem hi, ?_⟩
          rw [e, List.getD_eq_getElem?_getD, List.getElem?_eq_getElem hi] <;> rfl
        refine set_update_ints ((Walks.list nh3 _ l ne1 its).toS) s.heap.objs.size
          ne2 ks size few vals (its.size - 0) 0 _ (by omega) (Nat.zero_le _)
          ⟨⟨_, Heap.get?_push_size _ rfl, rfl, rfl⟩, (il2.push _)⟩ ?first ?last
        case first =>
          have g0 : ((s.heap.push (newSet w)).push { cls := .type "list_iterator", data := .fields #[.ref l, .int 0 0] }).get? s.heap.objs.size
              = some (newSet w) := Heap.get?_push_of_some _ at0
          exact ⟨0, Nat.le_refl 0, setR_new_at g0⟩
        case last =>
          intro z n mv hn hS
          obtain ⟨h2, g2, d2, tk2, os2⟩ := z
          have e1 : g2 = s.gens := mv.gens
          have e2 : d2 = s.drawn := mv.drawn
          have e3 : os2 = s.os := mv.os
          subst e1; subst e2; subst e3
          show wpAny _ _ _ _ _ _
          refine wpAny_pure ?_
          show wpAny _ _ (ret Value.none) _ _ _
          rw [size] at hn
          refine wpAny_pure ⟨rfl, h2, tk2, n, rfl, hS, hn, fun b o e => ?_⟩
          have b0 : b < s.heap.objs.size := Heap.lt_size e
          have b1 : b ≠ s.heap.objs.size := Nat.ne_of_lt b0
          have b2 : b ≠ (s.heap.push (newSet w)).objs.size := by
            rw [Heap.size_push]; exact Nat.ne_of_lt (Nat.lt_succ_of_lt b0)
          exact mv.heap b o (by simp only [List.mem_cons, List.mem_singleton, List.not_mem_nil, or_false, not_or]; exact ⟨b1, b2⟩) (Heap.get?_push_of_some _ (Heap.get?_push_of_some _ e))
      · cases r2 with
        | error e => exact hz2
        | ok fl2 =>
          cases fl2 with
          | ret u =>
            obtain ⟨rfl, h2, tk, n, rfl, hS, hn, hk⟩ := hz2
            repeat (any_goals (first | assumption | wp_step))
            exact q _ _ _ hS hn hk
          | _ => exact hz2.elim
    | _ => exact hz.elim
end
end VL

set_option Elab.async false
set_option linter.all false
set_option maxRecDepth 100000
set_option maxHeartbeats 4000000
/-! sorted(set(xs)), len(set(xs)) of ints -/
namespace VL
open PySem PySem.Spec PyProof.Rows L2
section
variable {P : Program} {w : World} {A : Around} {E : Value → Shared → Prop} {s : Shared} {a : Addr}
theorem sort_set {T : Int → Bool} {n : Nat} {Q : Value → Shared → Prop} (R : SetR w s.heap a T n) (nh : A.handled = none) (hz : n ≤ sizeLine)
    (q : ∀ s2 p (out : List Value) (c : Nat) (ks : List Int), (∀ b o, s.heap.get? b = some o → s2.heap.get? b = some o) → s2.gens = s.gens → s2.os = s.os → s.heap.objs.size ≤ p →
      s2.heap.get? p = some (seqObj "list" out.toArray c) → IntsAre out ks → ks.Pairwise (· < ·) → (∀ k, k ∈ ks ↔ T k = true) → ks.length = n → Q (.ref p) s2) :
    wpAny (model P w) A (call (.builtin "sorted") [.ref a]) Q E s := by
  obtain ⟨o, es, ep, t, ho, ex, hd, good, nd, mem, few, fit, cnt, ris, led⟩ := R
  refine Calls.call_function_entry kind_sorted plain_sorted entry_sorted (args_sorted1 _) ?_
  unfold Builtin.«sorted»
  refine wpAny_bind (m := checkCount "sorted" 1 1 _) (wpAny_pure ?_)
  refine wpAny_bind (collect_set (A := A.in1) nh ⟨o, ho, ex.1, hd⟩ fit few ris led ?_)
  intro s1 vs k1 z1 g1 o1 pm
  have vl : vs.length = n := by rw [pm.length_eq, List.length_map, Array.length_toList]; exact cnt
  have ia : IntsAre vs (vs.map Builtin.Re.reRawOf) := ints_of vs fun v hv => by
    obtain ⟨e, he, hq⟩ := List.mem_map.mp (pm.mem_iff.mp hv)
    obtain ⟨k, tk, h1, _⟩ := good e he
    exact ⟨k, tk, by rw [← hq]; exact h1⟩
  have pk : (vs.map Builtin.Re.reRawOf).Perm (es.toList.map L2.keyOf) := by
    have z := pm.map Builtin.Re.reRawOf
    rw [List.map_map] at z
    exact z
  refine wpAny_bind (wpAny_newList ?_ (by rw [vl]; exact hz))
  have at1 : (s1.heap.push (seqObj "list" vs.toArray 0)).get? s1.heap.objs.size = some (seqObj "list" vs.toArray 0) := Heap.get?_push_size _ rfl
  refine wpAny_bind (wpAny_holding (wpAny_call_entry slot_list_sort ⟨_, at1, rfl⟩ entry_list_sort (SrtO.list_sort_ord SrtO.swo_int at1 (by rw [vl]; exact hz) (fun h2 => SrtO.ints_sortable ia h2) fun out h1 h2 => ⟨_, rfl, ?_⟩) (args_list_sort _)))
  obtain ⟨i1, i2, i3⟩ := SrtO.ints_out ia h1 h2
  obtain ⟨c, hc⟩ := sortedHeap_at (vs := vs) (out := out.toArray) at1
  have pn : (out.map SrtO.iv).Perm (es.toList.map L2.keyOf) := i2.trans pk
  have pw : (out.map SrtO.iv).Pairwise (· < ·) := by
    have nd2 := pn.nodup_iff.mpr nd
    exact (i3.and nd2).imp fun ⟨x, y⟩ => by omega
  refine wpAny_pure ⟨_, rfl, q _ s1.heap.objs.size out c (out.map SrtO.iv) (fun b u e => ?_) g1 o1 z1 hc i1 pw (fun k => by rw [pn.mem_iff, ← mem k]) ?_⟩
  · have e2 := k1 b u e
    have lt := Heap.lt_size e2
    show (sortedHeap (s1.heap.push (seqObj "list" vs.toArray 0)) s1.heap.objs.size vs out.toArray).get? b = some u
    rw [sortedHeap_old (Nat.ne_of_lt lt) (by rw [size_push']; exact Nat.lt_succ_of_lt lt)]
    exact Heap.get?_push_of_some _ e2
  · rw [pn.length_eq, List.length_map, Array.length_toList]; exact cnt
end
def tSortSet (K : PySem.W.Frag) (ta : TE) : TE := fun σ H Q => ta σ H fun x H1 => ∃ (l : Addr) (ns : List Int), x = .ref l ∧ SqL K H1 l (ns.map V.int) ∧ ns.length ≤ 4000 ∧ ∀ (ks : List Int) (p : Addr), ks.Pairwise (· < ·) → (∀ k, k ∈ ks ↔ k ∈ ns) → H1 p = none → Q (.ref p) (L2.upd H1 p (.lst (ks.map V.int)))
theorem pe_sortSet {X : Cx} {a : Expr} {ta : TE} {p p2 q pos : Pos} (hc : X.calm = true) (hg : Gl X "sorted") (hm : X.mg "sorted" = none) (hg2 : Gl X "set") (hm2 : X.mg "set" = none) (ha : PE X a ta)
    (na : starEach [a] X.env = (false, eval a X.env) :: starEach [] X.env := by rfl) (nb : starEach [.Call (.Name "set" p2) [a] [] q] X.env = (false, eval (.Call (.Name "set" p2) [a] [] q) X.env) :: starEach [] X.env := by rfl) :
    PE X (.Call (.Name "sorted" p) [.Call (.Name "set" p2) [a] [] q] [] pos) (tSortSet X.K ta) := by
  constructor
  intro pins s σ H Q J w
  refine Call_ (ld_blt J hg hm PyProof.Rows.boot_sorted ?_)
  refine PyProof.Rows.callWith_builtin1 (PyProof.Rows.args_cons ?_ nb) nb rfl
  refine Call_ (ld_blt J hg2 hm2 PyProof.Rows.boot_set ?_)
  refine PyProof.Rows.callWith_type1 (PyProof.Rows.args_cons (thn (ha.run pins s σ H _ J w) ?_) na) na rfl
  rintro v s1 ⟨x, H1, J1, rx, l, ns, rfl, hq, hl, q1⟩
  refine PyProof.Rows.args_nil ?_
  cases rx
  obtain ⟨its, rv, pl, hz⟩ := J1.list hq
  have hi : IntsAre its.toArray.toList ns := ints_of_vals rv
  refine set_of_list ns (J1.ok.hd hc) pl.isList hi (by unfold scanBound; omega) fun h2 tk n R hn hk => ?_
  refine PyProof.Rows.args_nil ?_
  have J2 : Inv X pins σ H1 { s1 with heap := h2, toks := tk } := J1.kept hk
  refine sort_set R (J1.ok.hd hc) (by rw [sizeLine_eq]; omega) fun s3 p out c ks g1 g2 g3 g4 g5 g6 g7 g8 g9 => ?_
  have len : (ks.map V.int).length ≤ sizeLine := by rw [List.length_map, g9, sizeLine_eq]; omega
  have fresh : H1 p = none := J2.hok.fresh g4
  generalize ({ s1 with heap := h2, toks := tk } : Shared) = z at J2 g1 g2 g3 g4 fresh
  have J3 : Inv X pins σ (L2.upd H1 p (.lst (ks.map V.int))) { z with heap := s3.heap, gens := s3.gens, drawn := s3.drawn, toks := s3.toks } :=
    J2.call (ch := []) (Un.laid g1 g4 fresh) (J2.hok.laid g1 g4 ⟨len, out, c, vals_of_ints g6, g5⟩) (by rw [g2]; exact J2.bare) (fun _ z => nomatch z)
  have es : s3 = { z with heap := s3.heap, gens := s3.gens, drawn := s3.drawn, toks := s3.toks } := by
    cases s3
    cases z
    cases g3
    rfl
  rw [es]
  exact ⟨.ref p, _, J3, rfl, q1 ks p g7 (fun k => by rw [g8 k, decide_eq_true_eq]) fresh⟩
/-- sorted(set(a list of ints)) -/
def gSortSet : LV → LH → LK → Prop := fun x h L => match x with
  | .ref a => (match h a with
    | some (.lst xs) => (match intsOf xs with
      | some ns => ns.length ≤ 4000 ∧ ∀ ks : List Int, ks.Pairwise (· < ·) → (∀ k, k ∈ ks ↔ k ∈ ns) → cNew (.lst (ks.map .int)) L h
      | none => False)
    | _ => False)
  | _ => False
def lSortSet (la : LTE) : LTE := fun s h E L => la s h E fun x h1 => gSortSet x h1 L
theorem le_sortSet {X : Cx} {W : WX} {a : Expr} {la : LTE} {p p2 q pos : Pos} (hc : X.calm = true) (hm : X.mg "sorted" = none) (hm2 : X.mg "set" = none) (ha : LE X W a la) (hg : Gl X "sorted" := by rfl) (hg2 : Gl X "set" := by rfl)
    (na : starEach [a] X.env = (false, eval a X.env) :: starEach [] X.env := by rfl) (nb : starEach [.Call (.Name "set" p2) [a] [] q] X.env = (false, eval (.Call (.Name "set" p2) [a] [] q) X.env) :: starEach [] X.env := by rfl) :
    LE X W (.Call (.Name "sorted" p) [.Call (.Name "set" p2) [a] [] q] [] pos) (lSortSet la) :=
  peW (pe_sortSet hc hg hm hg2 hm2 ha na nb) fun σ H Q ⟨s, h, E, L, z, hl, out⟩ => ⟨s, h, E, _, z, hl, fun v H1 x h1 t1 r1 rx q1 => by
    unfold gSortSet at q1
    split at q1
    · rename_i b
      cases rx
      split at q1
      · rename_i xs ea
        split at q1
        · rename_i ns ei
          obtain ⟨ws, e2, rr⟩ := r1 b _ ea
          have e3 := intsOf_ok rr ei
          subst e3
          exact ⟨b, ns, rfl, .of e2, q1.1, fun ks p k1 k2 hp => out _ _ (.ref p) _ (t1.trans (.new hp)) (r1.lay hp (.mkL upd_same (.ints _))) (.ref p) (q1.2 ks k1 k2 p (r1.fresh hp))⟩
        · exact q1.elim
      · exact q1.elim
    · exact q1.elim⟩
section
variable {la : LTE} {s : LS} {h : LH} {E : LX} {L : LK} {a : Addr} {ns : List Int}
theorem i_sortSet (q : la s h E fun x h1 => gSortSet x h1 L) : lSortSet la s h E L := q
instance st_i_sortSet : Stp (lSortSet la s h E L) (la s h E fun x h1 => gSortSet x h1 L) := ⟨i_sortSet⟩
theorem pw_uniq : ∀ {ks ns : List Int}, ks.Pairwise (· < ·) → ns.Pairwise (· < ·) → (∀ k, k ∈ ks ↔ k ∈ ns) → ks = ns
  | ks, ns, h1, h2, h => by
    have n1 : ks.Nodup := h1.imp fun x => by omega
    have n2 : ns.Nodup := h2.imp fun x => by omega
    have p : ks.Perm ns := (List.perm_ext_iff_of_nodup n1 n2).mpr h
    exact sort_uniq (le := leI) (fun a b h1 h2 => by unfold leI at *; simp only [decide_eq_true_eq] at *; omega) p (h1.imp fun x => by unfold leI; simp only [decide_eq_true_eq]; omega) (h2.imp fun x => by unfold leI; simp only [decide_eq_true_eq]; omega)
/-- of a rising list -/
theorem s_sortSetUp (e : h a = some (.lst (ns.map .int))) (hz : ns.length ≤ 4000) (up : ns.Pairwise (· < ·)) (q : cNew (.lst (ns.map .int)) L h) : gSortSet (.ref a) h L := by
  unfold gSortSet
  dsimp only
  rw [e]
  dsimp only
  rw [intsOf_map]
  refine ⟨hz, fun ks k1 k2 => ?_⟩
  rw [pw_uniq k1 up k2]
  exact q
end
end VL

set_option Elab.async false
set_option linter.all false
set_option maxRecDepth 100000
set_option maxHeartbeats 4000000
/-! lists of lists; what a door shows -/
namespace VL
open PySem PySem.Spec PyProof.Rows L2
section
variable {s : LS} {h : LH} {E : LX} {l : LTE} {KI : LIt → LH → Prop}
instance st_liKeysI : Stp (liKeys l s h E KI) (l s h E fun x h1 => gLiF (fun kv => keyL kv.1) x h1 KI) := ⟨id⟩
instance st_liValsI : Stp (liVals l s h E KI) (l s h E fun x h1 => gLiF (fun kv => kv.2) x h1 KI) := ⟨id⟩
instance st_liItemsI : Stp (liItems l s h E KI) (l s h E fun x h1 => gLiF (fun kv => .tup [keyL kv.1, kv.2]) x h1 KI) := ⟨id⟩
end
/-- a list of ints at its address -/
def kp (p : Addr × List Int) : HP := pts p.1 (.lst (p.2.map .int))
theorem big_get {α : Type} {f : α → HP} {xs : List α} {Ps Qs : List HP} {h : LH} {x : α} {a : Addr} {o : LO} (s : stars Ps h) (k : Pk Ps (big f xs) Qs) (hx : x ∈ xs) (e : f x = pts a o) : h a = some o := by
  obtain ⟨i, hi⟩ := List.mem_iff_getElem?.mp hx
  obtain ⟨R, H, _⟩ := big_at s k hi
  rw [e] at H
  exact stars_get0 H
/-- two lists of ints -/
theorem i_eq_intsL {F : Bool → Bool} {xs : List Int} {a b : Addr} {h : LH} {L : LK} (ea : h a = some (.lst (xs.map .int))) (eb : h b = some (.lst (xs.map .int))) (q : L (.bl (F true)) h) : gEqW F (.ref a) (.ref b) h L := by
  have l1 := lay_ints xs
  have lay : (PyData.list (xs.map PyData.int)).canLay0 = true := by
    simp only [PyData.canLay0, l1.1]
  have dep : (PyData.list (xs.map PyData.int)).depth ≤ 8 := by
    have d1 := l1.2
    simp only [PyData.depth]
    omega
  have sh : SeqAt.shaped (PyData.list (xs.map PyData.int)) = true := by
    unfold SeqAt.shaped
    rw [lay]
    simp only [Bool.true_and, decide_eq_true_eq]
    omega
  have e1 : toD h 8 (.ref a) = some (.list (xs.map PyData.int)) := toD_ints ea
  have e2 : toD h 8 (.ref b) = some (.list (xs.map PyData.int)) := toD_ints eb
  exact i_eqD e1 e2 sh sh (by rw [SeqAt.eqv_refl _ lay]; exact q) rfl
/-! ### a log's rows, by == -/
theorem Pq.pr {n : Nat} {z : Str} {age : Int} {code : List Int} (hz : Nm z) : Pq (n + 3) (prs z age code) := .three (.low hz.low) .int .ints
theorem Pq.forgetR {n : Nat} {z : Str} (hz : Nm z) : Pq (n + 4) (.tup [.str "forget", .str z]) := .two (.low ⟨by decide, by decide⟩) (.low hz.low)
theorem Pq.turnR {n : Nat} {ks : List Int} : Pq (n + 4) (.tup [.str "turn", .tup (ks.map .int)]) := .two (.low ⟨by decide, by decide⟩) .ints
theorem Pq.closeR {n : Nat} {a : Int} : Pq (n + 4) (.tup [.str "close", .int a]) := .two (.low ⟨by decide, by decide⟩) .int
theorem Pq.learnR {n : Nat} {z1 z2 : Str} {a1 a2 : Int} {c1 c2 : List Int} (h1 : Nm z1) (h2 : Nm z2) : Pq (n + 4) (.tup [.str "learn", prs z1 a1 c1, prs z2 a2 c2]) := .three (.low ⟨by decide, by decide⟩) (.pr h1) (.pr h2)
theorem Pq.hearR {n : Nat} {z : Str} {age : Int} {code : List Int} {x : LV} (hz : Nm z) (hx : Pq (n + 3) x) : Pq (n + 4) (.tup [.str "hear", prs z age code, x]) := .three (.low ⟨by decide, by decide⟩) (.pr hz) hx
theorem Pq.keys {n : Nat} {keys : List (List Int)} : Pq (n + 3) (.tup (keys.map tupI)) := .tup fun x hx => by
  obtain ⟨k, _, rfl⟩ := List.mem_map.mp hx
  exact .ints
/-- what a door shows, log and all -/
def seenV (D : Dm) (rows : List LV) : LV := .tup [.tup (knownF D), .tup (D.keys.map tupI), .int D.closed, .tup [.int D.near, .int D.far, .int D.most], tupI D.tab, .tup rows]
theorem known_pqN {n : Nat} {D : Dm} (k : D.ok) : Pq (n + 4) (.tup (knownF D)) := .tup fun x hx => by
  obtain ⟨z, hz, rfl⟩ := List.mem_map.mp hx
  obtain ⟨hn, e, he⟩ := names_nm k ((srtS_perm _).mem_iff.mp hz)
  rw [he]
  exact .four (.str hn.low.ok) .int .int .wv
theorem seen_pq {D : Dm} {rows : List LV} (k : D.ok) (hr : ∀ r ∈ rows, Pq 6 r) : Pq 8 (seenV D rows) := .tup fun x hx => by
  simp only [List.mem_cons, List.not_mem_nil, or_false] at hx
  rcases hx with rfl | rfl | rfl | rfl | rfl | rfl
  · exact known_pqN k
  · exact .keys
  · exact .int
  · exact .three .int .int .int
  · exact .ints
  · exact .tup hr
end VL

set_option Elab.async false
set_option linter.all false
set_option maxRecDepth 100000
set_option maxHeartbeats 2000000
/-! comprehensions whose items are lists or tuples, taken apart by names -/
namespace VL
open PySem PySem.Spec PyProof.Rows L2
def kLcQ (is : List Nat) (lt : LTT) (le : LTE) (vs : List Nat) (s : LS) (it : LIt) (h1 : LH) (L : LK) : Prop := ∀ D, h1 D = none → ∃ (n : Nat) (P : Nat → LH → Prop), P 0 (up h1 D (.lst [])) ∧ ∀ i h, P i h → match it i h with
  | none => False
  | some none => L (.ref D) h
  | some (some x) => i < n ∧ match seqOf h x with
    | some xs => xs.length = is.length ∧ lt (sets (lwipe s vs) is xs) h X0 fun b h3 => if b = true then le (sets (lwipe s vs) is xs) h3 X0 fun y h4 => (match h4 D with
      | some (.lst acc) => acc.length < 100000 ∧ P (i + 1) (up h4 D (.lst (acc ++ [y])))
      | _ => False) else P (i + 1) h3
    | none => False
def lLcQ (li : LTI) (is : List Nat) (lt : LTT) (le : LTE) (vs : List Nat) : LTE := fun s h E L => li s h E fun it h1 => kLcQ is lt le vs s it h1 L
def rGQ (K : PySem.W.Frag) (is : List Nat) : TG := fun v σ H Q => gTup K is.length (rGs is) v σ H Q ∨ gLst K is.length (rGs is) v σ H Q
def ownQ (is vs : List Nat) : Bool := is.all fun i => vs.contains i
section
variable {X : Cx} {W : WX}
theorem lcQ_imp {li : LTI} {is : List Nat} {lt : LTT} {le : LTE} {vs0 : List Nat} (ho : ownQ is vs0 = true) : ∀ σ H Q, upE X.K W (lLcQ li is lt le vs0) σ H Q → tLc (upI X.K W li) (rGQ X.K is) (upTs X.K lt) (upE X.K W0 le) vs0 σ H Q := fun σ H Q ⟨s, h, E, L, z, hl, out⟩ => ⟨s, h, E, _, z, hl, fun J H1 it h1 t1 r1 rit q1 D hD => by
    obtain ⟨n, P, p0, step⟩ := q1 D (r1.fresh hD)
    have tD : TLe X.K H1 (upd H1 D (.lst [])) := .new hD
    refine ⟨fun i m H' => ∃ h', TLe X.K H1 H' ∧ RH X.K H' h' ∧ P i h' ∧ m = n - i, ⟨n, _, tD, r1.lay hD (.mkL upd_same .nil), p0, by omega⟩, ?_⟩
    rintro i m H' ⟨h', t2, r2, p, rfl⟩
    have q := step i h' p
    have zz := rit i H' h' t2 r2
    split at q
    · exact q.elim
    · rename_i e
      rw [e] at zz
      exact .inl ⟨zz, out _ H' (.ref D) h' (t1.trans t2) r2 (.ref D) q⟩
    · rename_i x e
      rw [e] at zz
      obtain ⟨hn, q2⟩ := q
      refine .inr ⟨zz.1, fun H2 => ∃ h2, TLe X.K H1 H2 ∧ RH X.K H2 h2 ∧ P (i + 1) h2, fun H2 ⟨h2, a, b, c⟩ => ⟨n - (i + 1), by omega, h2, a, b, c, rfl⟩, fun v H3 y => ?_⟩
      obtain ⟨t3, r3, rv⟩ := zz.2 v H3 y
      split at q2
      · rename_i xs es
        obtain ⟨hn2, q2⟩ := q2
        have tt : TLe X.K H1 H3 := t2.trans t3
        obtain ⟨pa, ws, rfl, hs, hr⟩ := seqOf_ok r3 rv es
        have fin : rGs is ws (wipe σ vs0) H3 fun σ2 H2 => wipe σ2 vs0 = wipe σ vs0 ∧ upTs X.K lt σ2 H2 fun b H3 => if b = true then upE X.K W0 le σ2 H3 fun y H4 => ∃ acc, H4 D = some (.lst acc) ∧ acc.length < sizeLine ∧ (fun H2 => ∃ h2, TLe X.K H1 H2 ∧ RH X.K H2 h2 ∧ P (i + 1) h2) (upd H4 D (.lst (acc ++ [y]))) else (fun H2 => ∃ h2, TLe X.K H1 H2 ∧ RH X.K H2 h2 ∧ P (i + 1) h2) H3 :=
          rGs_ok hn2 hr ((z.rs.mono (t1.trans tt)).wipe _) (by simpa [ownQ] using ho) fun σ2 rs2 ew => ⟨by rw [ew, wipe_wipe], _, h', X0, _, ⟨rs2, r3, fun _ _ _ _ _ _ _ _ q => q.elim⟩, q2, fun b H4 h4 t4 r4 q4 => by
            cases b with
            | true =>
              rw [if_pos rfl] at q4 ⊢
              refine ⟨_, h4, X0, _, ⟨rs2.mono t4, r4, fun _ _ _ _ _ _ _ _ q => q.elim⟩, q4, fun v5 H5 y5 h5 t5 r5 ry5 q5 => ?_⟩
              split at q5
              · rename_i acc ea
                obtain ⟨vs, e1, hr⟩ := r5 D _ ea
                have t6 : TLe X.K H5 (upd H5 D (.lst (vs ++ [v5]))) := .lst e1
                exact ⟨vs, e1, by rw [← hr.length]; exact szlt q5.1, _, ((tt.trans t4).trans t5).trans t6, r5.upd t6 (.mkL upd_same ((hr.append (.cons ry5 .nil)).mono t6)), q5.2⟩
              · exact q5.elim
            | false =>
              rw [if_neg Bool.false_ne_true] at q4 ⊢
              exact ⟨h4, tt.trans t4, r4, q4⟩⟩
        rcases hs with hs | hs
        · exact .inr ⟨pa, ws, rfl, hs, by rw [← hr.length]; exact hn2, fin⟩
        · exact .inl ⟨pa, ws, rfl, hs, by rw [← hr.length]; exact hn2, fin⟩
      · exact q2.elim⟩
theorem le_lcQ {elt iter : Expr} {es : List Expr} {kk : Nat} {tpos : Pos} {ifs : List Expr} {scope : Scope} {pos : Pos} {li : LTI} {lt : LTT} {le : LTE} (own : List (Str × Nat)) (is : List Nat) (hc : X.calm = true) (hN : X.N.Nodup) (hi : LI X W (.Tuple es kk tpos) iter li) (ok : blkC X.N X.env.scope scope own = true)
    (hg : ∀ (s : Shared) (H : Hp) (C : Addr) (cl : List (Str × Addr)) (fp : List Addr), PGs (X.blk s H scope (compEnvC scope cl C X.env) fp) es (rGs is))
    (hcb : ∀ (s : Shared) (H : Hp) (C : Addr) (cl : List (Str × Addr)) (fp : List Addr), (X.blk s H scope (compEnvC scope cl C X.env) fp).calm = true)
    (hnb : ∀ (s : Shared) (H : Hp) (C : Addr) (cl : List (Str × Addr)) (fp : List Addr), (assignEach es (X.blk s H scope (compEnvC scope cl C X.env) fp).env).length = is.length ∧ (assignEach es (X.blk s H scope (compEnvC scope cl C X.env) fp).env).findIdx? (·.1) = none)
    (ht : ∀ (s : Shared) (H : Hp) (C : Addr) (cl : List (Str × Addr)) (fp : List Addr), LTs (X.blk s H scope (compEnvC scope cl C X.env) fp) ifs lt)
    (he : ∀ (s : Shared) (H : Hp) (C : Addr) (cl : List (Str × Addr)) (fp : List Addr), LE (X.blk s H scope (compEnvC scope cl C X.env) fp) W0 elt le)
    (ho : ownQ is (own.map (·.2)) = true := by decide) (hs : ∀ x, foldedSetIterable iter X.env x = pure x := by intro _; rfl) :
    LE X W (.ListComp elt [⟨.Tuple es kk tpos, iter, ifs, 0⟩] scope pos) (lLcQ li is lt le (own.map (·.2))) :=
  peW (pe_lc (own := own) (tt := upTs X.K lt) (te := upE X.K W0 le) hc hN hi (blkOk_by ok) (fun s H C cl fp => pg_or (pg_tup (hcb s H C cl fp) (hg s H C cl fp) (hnb s H C cl fp).1 (hnb s H C cl fp).2) (pg_lst (hcb s H C cl fp) (hg s H C cl fp) (hnb s H C cl fp).1 (hnb s H C cl fp).2)) ht he hs) (lcQ_imp ho)
/-- name = [.. for ..] -/
theorem ls_setLcQ {y : Str} {py : Pos} {elt iter : Expr} {es : List Expr} {kk : Nat} {tpos : Pos} {ifs : List Expr} {scope : Scope} {pos spos : Pos} {li : LTI} {lt : LTT} {le : LTE} (i : Nat) (own : List (Str × Nat)) (is : List Nat) (hc : X.calm = true) (hN : X.N.Nodup) (hi' : LI X W (.Tuple es kk tpos) iter li) (ok : blkC X.N X.env.scope scope own = true)
    (hg : ∀ (s : Shared) (H : Hp) (C : Addr) (cl : List (Str × Addr)) (fp : List Addr), PGs (X.blk s H scope (compEnvC scope cl C X.env) fp) es (rGs is))
    (hcb : ∀ (s : Shared) (H : Hp) (C : Addr) (cl : List (Str × Addr)) (fp : List Addr), (X.blk s H scope (compEnvC scope cl C X.env) fp).calm = true)
    (hnb : ∀ (s : Shared) (H : Hp) (C : Addr) (cl : List (Str × Addr)) (fp : List Addr), (assignEach es (X.blk s H scope (compEnvC scope cl C X.env) fp).env).length = is.length ∧ (assignEach es (X.blk s H scope (compEnvC scope cl C X.env) fp).env).findIdx? (·.1) = none)
    (ht : ∀ (s : Shared) (H : Hp) (C : Addr) (cl : List (Str × Addr)) (fp : List Addr), LTs (X.blk s H scope (compEnvC scope cl C X.env) fp) ifs lt)
    (he : ∀ (s : Shared) (H : Hp) (C : Addr) (cl : List (Str × Addr)) (fp : List Addr), LE (X.blk s H scope (compEnvC scope cl C X.env) fp) W0 elt le)
    (hy : X.N[i]? = some y := by rfl) (hyl : X.env.scope.names.lookup y = some .local := by rfl) (hsw : swapsWith (.ListComp elt [⟨.Tuple es kk tpos, iter, ifs, 0⟩] scope pos) (some (.Name y py)) spos.line X.env = pure true := by exact sw_true rfl rfl rfl (by decide +kernel))
    (ho : ownQ is (own.map (·.2)) = true := by decide) (hs : ∀ x, foldedSetIterable iter X.env x = pure x := by intro _; rfl) :
    LSt X W (.Assign [.Name y py] (.ListComp elt [⟨.Tuple es kk tpos, iter, ifs, 0⟩] scope pos) spos) (lAsg (lLcQ li is lt le (own.map (·.2))) (lgName i)) :=
  psW (ps_setLc (own := own) (tt := upTs X.K lt) (te := upE X.K W0 le) hc hN hy hyl hsw hi' (blkOk_by ok) (fun s H C cl fp => pg_or (pg_tup (hcb s H C cl fp) (hg s H C cl fp) (hnb s H C cl fp).1 (hnb s H C cl fp).2) (pg_lst (hcb s H C cl fp) (hg s H C cl fp) (hnb s H C cl fp).1 (hnb s H C cl fp).2)) ht he hs) fun D σ H ⟨s, h, LD, rs, rh, hl, out⟩ => lcQ_imp ho σ H _
    ⟨s, h, fun c fs h' => LD.ex c fs s h', fun x h1 => LD.nx (s.set i (some x)) h1, sit_of rs rh out.ex, hl, fun v H1 x h1 t1 r1 rx q1 => out.nx _ H1 _ h1 t1 ((rs.mono t1).set rx i) r1 q1⟩
end
section
variable {s : LS} {h : LH} {E : LX} {L : LK} {l3 : LTI} {is vs : List Nat} {lt : LTT} {le : LTE} {Ps Qs : List HP} {a : Addr} {xs : List LV}
theorem i_lcQ (q : l3 s h E fun it h1 => kLcQ is lt le vs s it h1 L) : lLcQ l3 is lt le vs s h E L := q
instance st_i_lcQ : Stp (lLcQ l3 is lt le vs s h E L) (l3 s h E fun it h1 => kLcQ is lt le vs s it h1 L) := ⟨i_lcQ⟩
theorem s_lcQF {m : Nat} {it : LIt} {item : Nat → LV} {ys : Nat → List LV} (G : Nat → List LV → List HP → Prop) (H : stars Ps h) (hit : ∀ D i acc Qs h', i ≤ m → G i acc Qs → stars (pts D (.lst acc) :: Qs) h' → it i h' = if i < m then some (some (item i)) else some none)
    (ey : ∀ D i acc Qs h', i < m → G i acc Qs → stars (pts D (.lst acc) :: Qs) h' → seqOf h' (item i) = some (ys i) ∧ (ys i).length = is.length)
    (q0 : ∃ Qs, Ent Ps Qs ∧ G 0 [] Qs)
    (step : ∀ D i acc Qs h', i < m → acc.length ≤ i → G i acc Qs → stars (pts D (.lst acc) :: Qs) h' → lt (sets (lwipe s vs) is (ys i)) h' X0 fun b h3 => if b = true then le (sets (lwipe s vs) is (ys i)) h3 X0 (gApp m D G i) else gInv m D G (i + 1) h3)
    (stop : ∀ D acc Qs h', acc.length ≤ m → G m acc Qs → stars (pts D (.lst acc) :: Qs) h' → L (.ref D) h') : kLcQ is lt le vs s it h L := by
  intro D hD
  refine ⟨m, gInv m D G, ?_, fun i h' ⟨hi, acc, Qs, hl, g, hs⟩ => ?_⟩
  · obtain ⟨Qs, e, g⟩ := q0
    exact ⟨Nat.zero_le _, [], Qs, Nat.le_refl _, g, Ent.cons e _ (stars_new hD H)⟩
  rw [hit D i acc Qs h' hi g hs]
  by_cases hlt : i < m
  · rw [if_pos hlt]
    obtain ⟨e1, e2⟩ := ey D i acc Qs h' hlt g hs
    refine ⟨hlt, ?_⟩
    rw [e1]
    exact ⟨e2, step D i acc Qs h' hlt hl g hs⟩
  · rw [if_neg hlt]
    have e : i = m := by omega
    subst e
    exact stop D acc Qs h' hl g hs
/-- over a list of lists (or tuples), nothing changed by the items -/
theorem s_lcQL {ys : Nat → List LV} (g : Nat → LV) (H : stars Ps h) (ea : ∀ h', stars Ps h' → h' a = some (.lst xs)) (hz : xs.length ≤ 100000) (ey : ∀ i h', i < xs.length → stars Ps h' → seqOf h' (xs.getD i .non) = some (ys i) ∧ (ys i).length = is.length)
    (step : ∀ D i acc h' K, i < xs.length → stars (pts D (.lst acc) :: Ps) h' → (∀ h', stars (pts D (.lst acc) :: Ps) h' → K (g i) h') → le (sets (lwipe s vs) is (ys i)) h' X0 K)
    (stop : ∀ D h', stars (pts D (.lst ((List.range xs.length).map g)) :: Ps) h' → L (.ref D) h') : kLcQ is lYes le vs s (itL a) h L := by
  refine s_lcQF (m := xs.length) (item := fun i => xs.getD i .non) (ys := ys) (fun i acc Qs => acc = (List.range i).map g ∧ Qs = Ps) H (fun D i acc Qs h' hi hg hs => ?_) (fun D i acc Qs h' hi hg hs => ?_) ⟨_, Ent.refl, rfl, rfl⟩ (fun D i acc Qs h' hi hl hg hs => ?_) (fun D acc Qs h' hl hg hs => ?_)
  · obtain ⟨rfl, rfl⟩ := hg
    unfold itL
    rw [ea h' (stars_drop hs)]
    have e := itSt_get (xs := xs) (i := i) (h := h')
    unfold itSt at e
    exact e
  · obtain ⟨rfl, rfl⟩ := hg
    exact ey i h' hi (stars_drop hs)
  · obtain ⟨rfl, rfl⟩ := hg
    refine step D i _ h' _ hi hs fun h2 H2 => ?_
    refine gApp.mk H2 .here hl hi hz ⟨?_, rfl⟩ Ent.refl
    rw [List.range_succ, List.map_append]
    rfl
  · obtain ⟨rfl, rfl⟩ := hg
    exact stop D h' hs
end
end VL

set_option Elab.async false
set_option linter.all false
set_option maxRecDepth 100000
set_option maxHeartbeats 4000000
/-! logs: the world of a door, what a door keeps whatever it hears -/
namespace VL
open PySem PySem.Spec PyProof.Rows L2
structure Wr where
  tab : List Int
  keys : List (List Int)
  near : Int
  far : Int
  most : Int
  names : List Str
structure Wr.ok (W : Wr) : Prop where
  tab : Tab W.tab
  k1 : 1 ≤ W.keys.length
  k8 : W.keys.length ≤ 8
  kd : ∀ k ∈ W.keys, Digs k ∧ 1 ≤ k.length ∧ k.length ≤ 8
  n1 : 1 ≤ W.near
  n2 : W.near ≤ 64
  f1 : W.near ≤ W.far
  f2 : W.far ≤ 1024
  m1 : 1 ≤ W.most
  m2 : W.most ≤ 12
  z1 : 1 ≤ W.names.length
  z2 : W.names.length ≤ 12
  nm : ∀ z ∈ W.names, Nm z
structure Wa where
  m : Addr
  n : Addr
def Wr.dd (W : Wr) (n : Addr) : List (Key × LV) := [(.inr "table", tupI W.tab), (.inr "keys", .tup (W.keys.map tupI)), (.inr "near", .int W.near), (.inr "far", .int W.far), (.inr "most", .int W.most), (.inr "names", .ref n)]
def wd (M : Wa) (W : Wr) : HP := stars [pts M.m (.dic (W.dd M.n)), pts M.n (.lst (W.names.map .str))]
theorem wd_out {A : Wa} {W : Wr} {Ps : List HP} {h : LH} (s : stars (wd A W :: Ps) h) : stars (pts A.m (.dic (W.dd A.n)) :: pts A.n (.lst (W.names.map .str)) :: Ps) h := stars_open s
theorem Ent.wdIn {A : Wa} {W : Wr} {Cs Ps : List HP} (e : Ent Cs (pts A.m (.dic (W.dd A.n)) :: pts A.n (.lst (W.names.map .str)) :: Ps)) : Ent Cs (wd A W :: Ps) := fun h s => stars_close (Qs := [pts A.m (.dic (W.dd A.n)), pts A.n (.lst (W.names.map .str))]) (e h s)
section
variable {h : LH} {A : Wa} {W : Wr} {Ps Qs : List HP}
theorem wd_get1 (s : stars Ps h) (k : Pk Ps (wd A W) Qs) : h A.m = some (.dic (W.dd A.n)) := stars_get0 (wd_out (k.out s))
theorem wd_get2 (s : stars Ps h) (k : Pk Ps (wd A W) Qs) : h A.n = some (.lst (W.names.map .str)) := stars_get (wd_out (k.out s)) (.there .here)
end
def Wr.D (W : Wr) : Dm := ⟨W.tab, W.keys, W.near, W.far, W.most, 0, []⟩
theorem Wr.ok.D {W : Wr} (k : W.ok) : W.D.ok := ⟨k.tab, k.k1, k.k8, k.kd, k.n1, k.n2, k.f1, k.f2, k.m1, k.m2, Int.le_refl 0, List.nodup_nil, fun p hp => absurd hp List.not_mem_nil, Nat.zero_le _, fun p hp => absurd hp List.not_mem_nil, fun p hp => absurd hp List.not_mem_nil⟩
theorem wd_name {W : Wr} (k : W.ok) {d : Int} (h0 : 0 ≤ d) (h1 : d < W.names.length) : ∃ z, atI (W.names.map LV.str) d = some (.str z) ∧ Nm z ∧ z ∈ W.names := by
  obtain ⟨z, hz⟩ := get_of (xs := W.names) (i := d.toNat) (by omega)
  exact ⟨z, getL_map (f := LV.str) h0 hz, k.nm z (List.mem_of_getElem? hz), List.mem_of_getElem? hz⟩
/-- a door, and what its entries keep -/
structure Lk (D : Dm) : Prop where
  ok : D.ok
  wa : ∀ p ∈ D.es, ∀ q, p.2.w = some q → p.2.age ≤ q.1 ∧ q.1 < D.keys.length ∧ p.2.last + D.near < q.2 ∧ q.2 ≤ p.2.last + D.far
  l1 : ∀ p ∈ D.es, 1 ≤ p.2.last
  cl : D.closed < D.keys.length
theorem Wr.ok.L {W : Wr} (k : W.ok) : Lk W.D := ⟨k.D, fun p hp => absurd hp List.not_mem_nil, fun p hp => absurd hp List.not_mem_nil, by have := k.k1; show (0 : Int) < W.keys.length; omega⟩
theorem Lk.put {D : Dm} (k : Lk D) {z : Str} {e : En} (hz : Nm z) (hl : (eput D.es z e).length ≤ 12) (he : 0 ≤ e.age ∧ e.age < D.keys.length ∧ 1 ≤ e.last ∧ e.last ≤ 4095) (hw : ∀ q, e.w = some q → (e.age ≤ q.1 ∧ q.1 < D.keys.length ∧ e.last + D.near < q.2 ∧ q.2 ≤ e.last + D.far) ∧ q.2 ≤ 4095) : Lk { D with es := eput D.es z e } := by
  have n1 := k.ok.n1
  refine ⟨put_ok k.ok hz hl ⟨he.1, he.2.1, by omega, he.2.2.2⟩ (fun q hq => ⟨by have := (hw q hq).1; omega, by have := (hw q hq).1; omega, (hw q hq).2⟩), fun p hp q hq => ?_, fun p hp => ?_, k.cl⟩
  · rcases eput_mem hp with e1 | e1
    · exact k.wa p e1 q hq
    · subst e1
      exact (hw q hq).1
  · rcases eput_mem hp with e1 | e1
    · exact k.l1 p e1
    · rw [e1]
      exact he.2.2.1
theorem Lk.drop {D : Dm} (k : Lk D) {z : Str} : Lk { D with es := edrop D.es z } := ⟨drop_ok k.ok, fun p hp => k.wa p (edrop_mem hp).1, fun p hp => k.l1 p (edrop_mem hp).1, k.cl⟩
theorem Lk.turn {D : Dm} (k : Lk D) {ks : List Int} (h8 : D.keys.length < 8) (hk : Digs ks ∧ 1 ≤ ks.length ∧ ks.length ≤ 8) : Lk { D with keys := D.keys ++ [ks] } := ⟨turn_ok k.ok h8 hk, fun p hp q hq => by
  have := k.wa p hp q hq
  refine ⟨this.1, ?_, this.2.2⟩
  show q.1 < ((D.keys ++ [ks]).length : Nat)
  rw [List.length_append]
  simp
  omega, k.l1, by
  have := k.cl
  show D.closed < ((D.keys ++ [ks]).length : Nat)
  rw [List.length_append]
  simp
  omega⟩
theorem Lk.close {D : Dm} (k : Lk D) {c : Int} (h : 0 ≤ c) (h2 : c < D.keys.length) : Lk { D with closed := c } := ⟨close_ok k.ok h, k.wa, k.l1, h2⟩
theorem Lk.hear {D : Dm} (k : Lk D) {z : Str} {age : Int} {code : List Int} (hl : code.length = 5) (hd : Digs code) : Lk (hearF D z age code).2 := by
  unfold hearF
  cases q : eget D.es z with
  | none => exact k
  | some e =>
    have hm := eget_mem q
    have c0 := k.ok.c0
    have hv := k.ok.ev _ hm
    have h1 := k.l1 _ hm
    have hw := k.wa _ hm
    have hw2 := k.ok.ew _ hm
    dsimp only at hv h1 hw hw2
    have fin : ∀ e2 : En, 0 ≤ e2.age ∧ e2.age < D.keys.length ∧ 1 ≤ e2.last ∧ e2.last ≤ 4095 → (∀ q, e2.w = some q → (e2.age ≤ q.1 ∧ q.1 < D.keys.length ∧ e2.last + D.near < q.2 ∧ q.2 ≤ e2.last + D.far) ∧ q.2 ≤ 4095) → Lk { D with es := eput D.es z e2 } := fun e2 a b => k.put (k.ok.nm _ hm) (by
      have := congrArg List.length (eput_names (e := e2) q)
      rw [List.length_map, List.length_map] at this
      rw [this]
      exact k.ok.le) a b
    have same : Lk { D with es := eput D.es z e } := fin e ⟨hv.1, hv.2.1, h1, hv.2.2.2⟩ fun q hq => ⟨hw q hq, (hw2 q hq).2.2⟩
    dsimp only
    unfold ansF
    split
    · rename_i ht
      split
      · exact same
      · rename_i ha
        split
        · exact same
        · rename_i cd er
          have rg := readF_range (c := cd.1) (d := cd.2) hl hd er
          have t0 := ht.1
          have t1 := ht.2
          unfold countF
          split
          · exact same
          · split
            · exact fin _ ⟨by show 0 ≤ age; omega, t1, by show 1 ≤ cd.1; omega, by show cd.1 ≤ 4095; omega⟩ fun q hq => by cases hq
            · split
              · split
                · exact fin _ ⟨by show 0 ≤ age; omega, t1, by show 1 ≤ cd.1; omega, by show cd.1 ≤ 4095; omega⟩ fun q hq => by cases hq
                · refine fin _ ⟨hv.1, hv.2.1, h1, hv.2.2.2⟩ fun q hq => ?_
                  cases hq
                  exact ⟨⟨by show e.age ≤ age; omega, t1, by show e.last + D.near < cd.1; omega, by show cd.1 ≤ e.last + D.far; omega⟩, by show cd.1 ≤ 4095; omega⟩
              · exact same
    · exact same
theorem hearF_keep {D : Dm} {z : Str} {age : Int} {code : List Int} : (hearF D z age code).2.tab = D.tab ∧ (hearF D z age code).2.keys = D.keys ∧ (hearF D z age code).2.near = D.near ∧ (hearF D z age code).2.far = D.far ∧ (hearF D z age code).2.most = D.most ∧ (hearF D z age code).2.closed = D.closed := by
  unfold hearF
  cases eget D.es z with
  | none => exact ⟨rfl, rfl, rfl, rfl, rfl, rfl⟩
  | some e => exact ⟨rfl, rfl, rfl, rfl, rfl, rfl⟩
theorem Lk.hearX {D : Dm} (k : Lk D) {x : LV} : Lk (hearX D x).2 := by
  cases e : isPrs x with
  | false =>
    unfold VL.hearX
    rw [pressOf_not e]
    exact k
  | true =>
    obtain ⟨z, a, c, rfl, hz, hl, hd, ep⟩ := prs_some e
    unfold VL.hearX
    rw [ep]
    exact k.hear hl hd
theorem hearX_keep {D : Dm} {x : LV} : (hearX D x).2.tab = D.tab ∧ (hearX D x).2.keys = D.keys ∧ (hearX D x).2.near = D.near ∧ (hearX D x).2.far = D.far ∧ (hearX D x).2.most = D.most ∧ (hearX D x).2.closed = D.closed := by
  unfold hearX
  split
  · exact ⟨rfl, rfl, rfl, rfl, rfl, rfl⟩
  · exact hearF_keep
/-- learning by anything that goes well -/
theorem learnX_is {D D2 : Dm} {x y : LV} (k : Lk D) (e : learnX D x y = .ok D2) : ∃ z a c c1 c2, x = prs z a c1 ∧ y = prs z a c2 ∧ Nm z ∧ (c1.length = 5 ∧ Digs c1) ∧ (c2.length = 5 ∧ Digs c2) ∧ D.takes a ∧ (1 ≤ c ∧ c ≤ 4095) ∧ eget D.es z = none ∧ D.es.length < D.most ∧ D2 = { D with es := eput D.es z ⟨a, c, none⟩ } := by
  unfold learnX at e
  split at e
  · cases e
  · rename_i z1 a1 c1 ep1
    split at e
    · cases e
    · split at e
      · cases e
      · rename_i z2 a2 c2 ep2
        obtain ⟨z1', a1', c1', rfl, hz1, hl1, hd1, ep1'⟩ := prs_some (x := x) (by
          cases ei : isPrs x with
          | true => rfl
          | false => rw [pressOf_not ei] at ep1; cases ep1)
        rw [ep1'] at ep1
        cases ep1
        obtain ⟨z2', a2', c2', rfl, hz2, hl2, hd2, ep2'⟩ := prs_some (x := y) (by
          cases ei : isPrs y with
          | true => rfl
          | false => rw [pressOf_not ei] at ep2; cases ep2)
        rw [ep2'] at ep2
        cases ep2
        obtain ⟨rfl, rfl, h3, h4, h5, n, h6, h7, h8⟩ := learn_is hl1 hd1 hl2 hd2 e
        exact ⟨_, _, n, _, _, rfl, rfl, hz1, ⟨hl1, hd1⟩, ⟨hl2, hd2⟩, h3, ⟨h6, h7⟩, h4, h5, h8⟩
theorem Lk.learnX {D D2 : Dm} {x y : LV} (k : Lk D) (e : learnX D x y = .ok D2) : Lk D2 := by
  obtain ⟨z, a, c, c1, c2, -, -, hz, -, -, ht, hc, hn, hm, rfl⟩ := learnX_is k e
  have c0 := k.ok.c0
  have m2 := k.ok.m2
  have el : (eput D.es z ⟨a, c, none⟩).length ≤ D.es.length + 1 := eput_length
  exact k.put hz (by omega) ⟨by show 0 ≤ a; have := ht.1; omega, ht.2, hc.1, hc.2⟩ fun q hq => by cases hq
theorem Pq.t0 {n : Nat} : Pq (n + 1) (.tup []) := .tup fun x hx => absurd hx List.not_mem_nil
theorem known_at {D : Dm} (k : D.ok) {d : Int} (h0 : 0 ≤ d) (h1 : d < (knownF D).length) : ∃ z e, atI (knownF D) d = some (.tup [.str z, .int e.age, .int e.last, wv e.w]) ∧ eget D.es z = some e ∧ Nm z := by
  unfold knownF at h1 ⊢
  rw [List.length_map] at h1
  obtain ⟨z, hz⟩ := get_of (xs := srtS (names D.es)) (i := d.toNat) (by omega)
  obtain ⟨hn, e, he⟩ := names_nm k ((srtS_perm _).mem_iff.mp (List.mem_of_getElem? hz))
  refine ⟨z, e, ?_, he, hn⟩
  rw [getL_map h0 hz, he]
theorem known_len {D : Dm} (k : D.ok) : (knownF D).length ≤ 12 := by
  unfold knownF
  rw [List.length_map, (srtS_perm _).length_eq]
  unfold names
  rw [List.length_map]
  exact k.le
/-- things that are told wherever they stand -/
theorem Tg.at {x : LV} (t : Tg (fun _ => none) x) {h : LH} : Tg h x := t.sub fun a o e => by cases e
theorem ent_thg {Cs : List HP} {x : LV} (t : Tg (fun _ => none) x) : Ent Cs (thgs [x] :: Cs) := fun h s => ⟨fun _ => none, h, fun _ => .inl rfl, by funext a; rfl, fun y hy => by rw [List.mem_singleton.mp hy]; exact t, s⟩
theorem ent_thgL {Cs Qs : List HP} {a : Addr} {xs : List LV} (k : Pk Cs (pts a (.lst xs)) Qs) : Ent Cs (thgs [.ref a] :: Qs) := fun h s => stars_imp (fun h p => fun y hy => by
  rw [List.mem_singleton.mp hy]
  have p' : h a = some (.lst xs) := p
  exact ⟨⟨_, lty_lst p'⟩, fun z e => (by cases e), fun ys e => (by cases e)⟩) (k.out s)
theorem ent_thg2 {Cs Qs : List HP} {ts : List LV} {y : LV} (k : Pk Cs (thgs ts) Qs) (t : ∀ h, Tg h y) : Ent Cs (thgs (y :: ts) :: Qs) := fun h s => stars_imp (fun h p => fun x hx => by
  rcases List.mem_cons.mp hx with rfl | hx
  · exact t h
  · exact p x hx) (k.out s)
/-- a tuple repeated -/
def gMulT : LR2 := fun x y h L => match x, y with
  | .tup xs, .int k => xs ≠ [] ∧ 2 ≤ k ∧ k ≤ 1000 ∧ xs.length ≤ 1000 ∧ L (.tup (List.replicate k.toNat xs).flatten) h
  | _, _ => False
theorem sr_mulT {K : PySem.W.Frag} : SR2 K (rRepT K) gMulT := fun H h x y v u L Q rh rx ry g o => by
  unfold gMulT at g
  split at g
  · cases rx with
    | tup ht hr =>
      cases ry
      obtain ⟨g1, g2, g3, g4, g5⟩ := g
      exact ⟨_, _, _, rfl, rfl, ht, (by rintro rfl; cases hr; exact g1 rfl), g2, g3, by rw [← hr.length]; exact g4, fun p hp => o _ _ (.tup _) _ (.new hp) (rh.new hp) (.tup (.inl (.inl upd_same)) ((hr.rep _).mono (.new hp))) g5⟩
  · exact g.elim
theorem le_mulT {X : Cx} {W : WX} {a b : Expr} {la lb : LTE} {pos : Pos} (ha : LE X W a la) (hb : LE X W b lb) : LE X W (.BinOp a .Mult b pos) (lOp gMulT la lb) := le_op op_repT sr_mulT ha hb
theorem i_mulT {xs : List LV} {k : Int} {h : LH} {L : LK} (e : xs ≠ [] ∧ 2 ≤ k ∧ k ≤ 1000 ∧ xs.length ≤ 1000) (q : L (.tup (List.replicate k.toNat xs).flatten) h) : gMulT (.tup xs) (.int k) h L := ⟨e.1, e.2.1, e.2.2.1, e.2.2.2, q⟩
instance st_zero5 {h : LH} {L : LK} : Stp (gMulT (.tup [.int 0]) (.int 5) h L) (L (.tup [.int 0, .int 0, .int 0, .int 0, .int 0]) h) := ⟨fun q => i_mulT ⟨List.cons_ne_nil _ _, by decide, by decide, by show 1 ≤ 1000; decide⟩ q⟩
theorem Tg.nba {h : LH} {z : Str} {b : Bool} {ns : List Int} (hz : z.length ≤ 1000) (hl : ns.length ≤ 1000) : Tg h (.tup [.str z, .bl b, .tup (ns.map .int)]) :=
  ⟨⟨_, rfl⟩, fun _ e => (by cases e), fun xs e => by
    cases e
    refine ⟨show 3 ≤ 1000 by omega, fun y hy => ?_⟩
    simp only [List.mem_cons, List.not_mem_nil, or_false] at hy
    rcases hy with rfl | rfl | rfl
    · exact ⟨⟨_, rfl⟩, fun _ e => (by cases e; exact hz), fun _ e => (by cases e)⟩
    · exact ⟨⟨_, rfl⟩, fun _ e => (by cases e), fun _ e => (by cases e)⟩
    · refine ⟨⟨_, rfl⟩, fun _ e => (by cases e), fun ys e => ?_⟩
      cases e
      refine ⟨by rw [List.length_map]; exact hl, fun z hz => ?_⟩
      obtain ⟨i, _, rfl⟩ := List.mem_map.mp hz
      exact ⟨_, rfl⟩⟩
theorem Tg.non {h : LH} : Tg h .non := ⟨⟨_, rfl⟩, fun _ e => (by cases e), fun _ e => (by cases e)⟩
theorem Tg.int {h : LH} {i : Int} : Tg h (.int i) := ⟨⟨_, rfl⟩, fun _ e => (by cases e), fun _ e => (by cases e)⟩
theorem Tg.str {h : LH} {z : Str} (hz : z.length ≤ 1000) : Tg h (.str z) := ⟨⟨_, rfl⟩, fun _ e => (by cases e; exact hz), fun _ e => (by cases e)⟩
theorem Tg.t0 {h : LH} : Tg h (.tup []) := ⟨⟨_, rfl⟩, fun _ e => (by cases e), fun xs e => by cases e; exact ⟨Nat.zero_le _, fun y hy => absurd hy List.not_mem_nil⟩⟩
theorem ent_thgs {Cs Qs : List HP} {ts us : List LV} (k : Pk Cs (thgs ts) Qs) (t : ∀ x ∈ us, x ∈ ts ∨ ∀ h, Tg h x) : Ent Cs (thgs us :: Qs) := fun h s => stars_imp (fun h p => fun x hx => by
  rcases t x hx with e | e
  · exact p x e
  · exact e h) (k.out s)
theorem ent_thg0 {Cs : List HP} {us : List LV} (t : ∀ x ∈ us, ∀ h, Tg h x) : Ent Cs (thgs us :: Cs) := fun h s => ⟨fun _ => none, h, fun _ => .inl rfl, by funext a; rfl, fun y hy => t y hy _, s⟩
/-! ### deeds, and the rows that they are in a log -/
inductive Ld where
  | learn (x y : LV) | forget (z : Str) | turn (k : List Int) | close (a : Int) | hear (x : LV)
def Ld.ws : Ld → List LV
  | .learn x y => [.str "learn", x, y]
  | .forget z => [.str "forget", .str z]
  | .turn k => [.str "turn", tupI k]
  | .close a => [.str "close", .int a]
  | .hear x => [.str "hear", x]
def Ld.ts : Ld → List LV
  | .learn x y => [x, y]
  | .hear x => [x]
  | _ => []
def Ld.ok (D : Dm) : Ld → Prop
  | .forget z => Nm z
  | .turn k => Digs k ∧ 1 ≤ k.length ∧ k.length ≤ 8
  | .close a => 0 ≤ a ∧ a < D.keys.length
  | _ => True
def doneF (D : Dm) : Ld → Option LV × Dm
  | .learn x y => (match learnX D x y with
    | .ok D2 => (some (.tup [.str "learn", x, y]), D2)
    | _ => (none, D))
  | .forget z => (match eget D.es z with
    | some _ => (some (.tup [.str "forget", .str z]), { D with es := edrop D.es z })
    | none => (none, D))
  | .turn k => if D.keys.length < 8 then (some (.tup [.str "turn", tupI k]), { D with keys := D.keys ++ [k] }) else (none, D)
  | .close a => (some (.tup [.str "close", .int a]), { D with closed := if a > D.closed then a else D.closed })
  | .hear x => if isPrs x = true then (some (.tup [.str "hear", x, (hearX D x).1]), (hearX D x).2) else (none, D)
def optV : Option LV → LV
  | some v => v
  | none => .non
theorem done_L {D : Dm} (k : Lk D) {d : Ld} (hd : d.ok D) : Lk (doneF D d).2 := by
  cases d with
  | learn x y =>
    unfold doneF
    dsimp only
    split
    · rename_i D2 e
      exact k.learnX e
    · exact k
  | forget z =>
    unfold doneF
    dsimp only
    split
    · exact k.drop
    · exact k
  | turn ks =>
    unfold doneF
    dsimp only
    split
    · rename_i h
      exact k.turn h hd
    · exact k
  | close a =>
    have c0 := k.ok.c0
    have c1 := k.cl
    obtain ⟨hd0, hd1⟩ := hd
    exact k.close (by split <;> omega) (by split <;> omega)
  | hear x =>
    unfold doneF
    dsimp only
    split
    · exact k.hearX
    · exact k
theorem learnX_tab {D D2 : Dm} {x y : LV} (k : Lk D) (e : learnX D x y = .ok D2) : D2.tab = D.tab ∧ D2.near = D.near ∧ D2.far = D.far ∧ D2.most = D.most ∧ D2.keys = D.keys := by
  obtain ⟨z, a, c, c1, c2, -, -, hz, -, -, ht, hc, hn, hm, rfl⟩ := learnX_is k e
  exact ⟨rfl, rfl, rfl, rfl, rfl⟩
theorem done_keep {D : Dm} (k : Lk D) {d : Ld} : (doneF D d).2.tab = D.tab ∧ (doneF D d).2.near = D.near ∧ (doneF D d).2.far = D.far ∧ (doneF D d).2.most = D.most := by
  cases d with
  | learn x y =>
    unfold doneF
    dsimp only
    split
    · rename_i D2 e
      have := learnX_tab k e
      exact ⟨this.1, this.2.1, this.2.2.1, this.2.2.2.1⟩
    · exact ⟨rfl, rfl, rfl, rfl⟩
  | forget z =>
    unfold doneF
    dsimp only
    split <;> exact ⟨rfl, rfl, rfl, rfl⟩
  | turn ks =>
    unfold doneF
    dsimp only
    split <;> exact ⟨rfl, rfl, rfl, rfl⟩
  | close a => exact ⟨rfl, rfl, rfl, rfl⟩
  | hear x =>
    unfold doneF
    dsimp only
    split
    · have := hearX_keep (D := D) (x := x)
      exact ⟨this.1, this.2.2.1, this.2.2.2.1, this.2.2.2.2.1⟩
    · exact ⟨rfl, rfl, rfl, rfl⟩
theorem Pl.prs {n : Nat} {z : Str} {a : Int} {c : List Int} (hl : c.length ≤ 1000) : Pl (n + 3) (VL.prs z a c) := .three .str .int (.ints (by omega))
theorem Pl.ansH {n : Nat} {D : Dm} {z : Str} {age : Int} {code : List Int} : Pl (n + 2) (hearF D z age code).1 := by
  unfold hearF
  split
  · exact .held
  · unfold ansF
    split
    · split
      · exact .held
      · split
        · exact .held
        · exact .count
    · exact .held
/-- the rows of a log -/
structure Rw (r : LV) : Prop where
  pl : Pl 4 r
  pq : Pq 6 r
  tp : ∃ ys, r = .tup ys
theorem done_row {D : Dm} (k : Lk D) {d : Ld} (hd : d.ok D) {r : LV} (e : (doneF D d).1 = some r) : Rw r := by
  cases d with
  | learn x y =>
    unfold doneF at e
    dsimp only at e
    split at e
    · rename_i D2 e2
      cases e
      obtain ⟨z, a, c, c1, c2, rfl, rfl, hz, h1, h2, -⟩ := learnX_is k e2
      exact ⟨.three .str (.prs (by omega)) (.prs (by omega)), .learnR hz hz, _, rfl⟩
    · cases e
  | forget z =>
    unfold doneF at e
    dsimp only at e
    split at e
    · cases e
      exact ⟨.two .str .str, .forgetR hd, _, rfl⟩
    · cases e
  | turn ks =>
    unfold doneF at e
    dsimp only at e
    split at e
    · cases e
      exact ⟨.two .str (.ints (by have := hd.2.2; omega)), .turnR, _, rfl⟩
    · cases e
  | close a =>
    cases e
    exact ⟨.two .str .int, .closeR, _, rfl⟩
  | hear x =>
    unfold doneF at e
    dsimp only at e
    split at e
    · rename_i ei
      obtain ⟨z, a, c, rfl, hz, hl, hd, ep⟩ := prs_some ei
      cases e
      have key : hearX D (prs z a c) = hearF D z a c := by unfold hearX; rw [ep]
      show Rw (.tup [.str "hear", prs z a c, (hearX D (prs z a c)).1])
      rw [key]
      exact ⟨.three .str (.prs (by omega)) .ansH, .hearR hz (.ans hz), _, rfl⟩
    · cases e
theorem ent_thgN {Cs : List HP} : Ent Cs (thgs [] :: Cs) := ent_thg0 fun x hx => absurd hx List.not_mem_nil
theorem i_eq_pqE {x y : LV} {h : LH} {L : LK} (px : Pq 8 x) (py : Pq 8 y) (hT : x = y → L (.bl true) h) (hF : x ≠ y → L (.bl false) h) : gEqW id x y h L := i_eq_pq px py hT hF
theorem ans_bad {D : Dm} {z : Str} {age : Int} {code : List Int} : (hearF D z age code).1 ≠ LV.tup [.str "held", .str "bad"] := by
  unfold hearF ansF countF heldA openA
  repeat' split
  all_goals
    intro h
    simp only [LV.tup.injEq, List.cons.injEq, LV.str.injEq, and_true, true_and, reduceCtorEq, and_false] at h
  all_goals exact absurd h (by decide)
theorem Rw.pls {rows : List LV} (h : ∀ r ∈ rows, Rw r) (hl : rows.length ≤ 100000) : Pl 5 (.tup rows) := .tup hl fun r hr => (h r hr).pl
theorem rw_opt {o : Option LV} {rows : List LV} (h : ∀ r ∈ rows, Rw r) (ho : ∀ r, o = some r → Rw r) : ∀ r ∈ rows ++ o.toList, Rw r := fun r hr => by
  rcases List.mem_append.mp hr with hr | hr
  · exact h r hr
  · cases o with
    | none => exact absurd hr List.not_mem_nil
    | some x => rw [List.mem_singleton.mp hr]; exact ho x rfl
theorem opt_len {o : Option LV} : o.toList.length ≤ 1 := by
  cases o
  · exact Nat.zero_le _
  · exact Nat.le_refl _
end VL

set_option Elab.async false
set_option linter.all false
set_option maxRecDepth 100000
set_option maxHeartbeats 4000000
/-! the rows of a log, how a door came to be, short logs, what was let in -/
namespace VL
open PySem PySem.Spec PyProof.Rows L2
/-- a row of a log -/
inductive Rk where
  | learn (z : Str) (a : Int) (c1 c2 : List Int)
  | forget (z : Str)
  | turn (k : List Int)
  | close (a : Int)
  | hear (z : Str) (a : Int) (c : List Int) (x : LV)
def Rk.is : Rk → List LV
  | .learn z a c1 c2 => [.str "learn", prs z a c1, prs z a c2]
  | .forget z => [.str "forget", .str z]
  | .turn k => [.str "turn", tupI k]
  | .close a => [.str "close", .int a]
  | .hear z a c x => [.str "hear", prs z a c, x]
def Rk.lv (r : Rk) : LV := .tup r.is
def Rk.ld : Rk → Ld
  | .learn z a c1 c2 => .learn (prs z a c1) (prs z a c2)
  | .forget z => .forget z
  | .turn k => .turn k
  | .close a => .close a
  | .hear z a c _ => .hear (prs z a c)
def Rk.fit (D : Dm) : Rk → Prop
  | .close a => a < D.keys.length
  | _ => True
/-- an answer -/
def Ans (z : Str) (x : LV) : Prop := (∃ w, x = heldA w ∧ Low w) ∨ ∃ d, x = openA z d
def Rk.ok : Rk → Prop
  | .learn z a c1 c2 => Nm z ∧ (c1.length = 5 ∧ Digs c1) ∧ (c2.length = 5 ∧ Digs c2) ∧ 0 ≤ a
  | .forget z => Nm z
  | .turn k => Digs k ∧ 1 ≤ k.length ∧ k.length ≤ 8
  | .close a => 0 ≤ a
  | .hear z a c x => Nm z ∧ (c.length = 5 ∧ Digs c) ∧ Ans z x
theorem ans_is {D : Dm} {z : Str} {age : Int} {code : List Int} : Ans z (hearF D z age code).1 := by
  unfold hearF ansF countF
  repeat' split
  all_goals first
    | exact .inr ⟨_, rfl⟩
    | exact .inl ⟨_, rfl, ⟨by decide, by decide⟩⟩
/-- an answer that lets in is of a code that is read -/
theorem ans_open {D : Dm} (k : D.ok) {z : Str} {age : Int} {code : List Int} {d : Int} (e : (hearF D z age code).1 = openA z d) : D.takes age ∧ 0 ≤ age ∧ ∃ c, readF D.tab (D.keys.getD age.toNat []) z code = some (c, d) := by
  have nh : ∀ w, heldA w ≠ openA z d := fun w h => by
    unfold heldA openA at h
    rw [LV.tup.injEq, List.cons.injEq] at h
    have := h.2
    rw [List.cons.injEq] at this
    cases this.2
  have ot : ∀ d2, openA z d2 = openA z d → d2 = d := fun d2 h => by
    unfold openA at h
    rw [LV.tup.injEq, List.cons.injEq, List.cons.injEq, List.cons.injEq, LV.int.injEq] at h
    exact h.2.2.1
  unfold hearF at e
  split at e
  · exact absurd e (nh _)
  · unfold ansF at e
    dsimp only at e
    split at e
    · rename_i ht
      split at e
      · exact absurd e (nh _)
      · split at e
        · exact absurd e (nh _)
        · rename_i cd er
          have hd : cd.2 = d := by
            unfold countF at e
            repeat' split at e
            all_goals first
              | exact absurd e (nh _)
              | exact ot _ e
          exact ⟨ht, by have := ht.1; have := k.c0; omega, cd.1, by rw [er, ← hd]⟩
    · exact absurd e (nh _)
/-- a deed that is done is a row; done anew it is the same -/
theorem done_rk {D : Dm} (k : Lk D) {d : Ld} (hd : d.ok D) {r : LV} (e : (doneF D d).1 = some r) : ∃ rk : Rk, r = rk.lv ∧ rk.ok ∧ rk.fit D ∧ rk.ld = d ∧ doneF D rk.ld = (some rk.lv, (doneF D d).2) := by
  cases d with
  | learn x y =>
    unfold doneF at e
    dsimp only at e
    split at e
    · rename_i D2 e2
      cases e
      obtain ⟨z, a, c, c1, c2, rfl, rfl, hz, h1, h2, ht, -⟩ := learnX_is k e2
      refine ⟨.learn z a c1 c2, rfl, ⟨hz, h1, h2, by have := ht.1; have := k.ok.c0; omega⟩, trivial, rfl, ?_⟩
      show doneF D (.learn (prs z a c1) (prs z a c2)) = _
      unfold doneF
      dsimp only
      rw [e2]
      rfl
    · cases e
  | forget z =>
    unfold doneF at e
    dsimp only at e
    split at e
    · rename_i e2
      cases e
      refine ⟨.forget z, rfl, hd, trivial, rfl, ?_⟩
      show doneF D (.forget z) = _
      unfold doneF
      dsimp only
      rw [e2]
      rfl
    · cases e
  | turn ks =>
    unfold doneF at e
    dsimp only at e
    split at e
    · rename_i e2
      cases e
      refine ⟨.turn ks, rfl, hd, trivial, rfl, ?_⟩
      show doneF D (.turn ks) = _
      unfold doneF
      dsimp only
      rw [if_pos e2]
      rfl
    · cases e
  | close a =>
    cases e
    exact ⟨.close a, rfl, hd.1, hd.2, rfl, rfl⟩
  | hear x =>
    unfold doneF at e
    dsimp only at e
    split at e
    · rename_i ei
      obtain ⟨z, a, c, rfl, hz, hl, hdg, ep⟩ := prs_some ei
      cases e
      have key : hearX D (prs z a c) = hearF D z a c := by unfold hearX; rw [ep]
      refine ⟨.hear z a c (hearX D (prs z a c)).1, rfl, ⟨hz, ⟨hl, hdg⟩, by rw [key]; exact ans_is⟩, trivial, rfl, ?_⟩
      show doneF D (.hear (prs z a c)) = _
      unfold doneF
      dsimp only
      rw [if_pos ei]
      rfl
    · cases e
theorem done_no {D : Dm} {d : Ld} (e : (doneF D d).1 = none) : (doneF D d).2 = D := by
  cases d with
  | learn x y =>
    unfold doneF at e ⊢
    dsimp only at e ⊢
    split at e
    · cases e
    · rfl
  | forget z =>
    unfold doneF at e ⊢
    dsimp only at e ⊢
    split at e
    · cases e
    · rfl
  | turn ks =>
    unfold doneF at e ⊢
    dsimp only at e ⊢
    split at e
    · cases e
    · rename_i h
      rw [if_neg h]
  | close a => cases e
  | hear x =>
    unfold doneF at e ⊢
    dsimp only at e ⊢
    split at e
    · cases e
    · rename_i h
      rw [if_neg h]
/-- how a door came to be -/
inductive Hi (W : Wr) : List Rk → Dm → Prop
  | nil : Hi W [] W.D
  | snoc {rs : List Rk} {D D2 : Dm} {r : Rk} : Hi W rs D → Lk D → r.ok ∧ r.fit D → doneF D r.ld = (some r.lv, D2) → Lk D2 → Hi W (rs ++ [r]) D2
theorem Hi.done {W : Wr} {rs : List Rk} {D : Dm} (hh : Hi W rs D) (k : Lk D) {d : Ld} (hd : d.ok D) : ∃ rs2 : List Rk, (rs ++ rs2).map Rk.lv = rs.map Rk.lv ++ (doneF D d).1.toList ∧ rs2.length ≤ 1 ∧ Hi W (rs ++ rs2) (doneF D d).2 := by
  cases e : (doneF D d).1 with
  | none => exact ⟨[], by rw [List.append_nil]; exact (List.append_nil _).symm, Nat.zero_le _, by rw [List.append_nil, done_no e]; exact hh⟩
  | some r =>
    obtain ⟨rk, rfl, h1, hf, h2, h3⟩ := done_rk k hd e
    exact ⟨[rk], by rw [List.map_append]; rfl, Nat.le_refl _, .snoc hh k ⟨h1, hf⟩ h3 (done_L k hd)⟩
def turnsOf : List Rk → List (List Int)
  | [] => []
  | .turn k :: r => k :: turnsOf r
  | _ :: r => turnsOf r
theorem turns_app : ∀ {as bs : List Rk}, turnsOf (as ++ bs) = turnsOf as ++ turnsOf bs
  | [], _ => rfl
  | .turn k :: r, bs => by show k :: turnsOf (r ++ bs) = k :: turnsOf r ++ turnsOf bs; rw [turns_app]; rfl
  | .learn .. :: r, bs => turns_app (as := r)
  | .forget _ :: r, bs => turns_app (as := r)
  | .close _ :: r, bs => turns_app (as := r)
  | .hear .. :: r, bs => turns_app (as := r)
/-- what one row does -/
theorem row_keep {D D2 : Dm} (k : Lk D) {r : Rk} (e : doneF D r.ld = (some r.lv, D2)) : D2.tab = D.tab ∧ D2.near = D.near ∧ D2.far = D.far ∧ D2.most = D.most ∧ D2.keys = D.keys ++ turnsOf [r] ∧ (D.es.length ≤ D.most → D2.es.length ≤ D2.most) := by
  have dk := done_keep k (d := r.ld)
  rw [e] at dk
  refine ⟨dk.1, dk.2.1, dk.2.2.1, dk.2.2.2, ?_⟩
  cases r with
  | learn z a c1 c2 =>
    unfold Rk.ld doneF at e
    dsimp only at e
    split at e
    · rename_i D3 e2
      cases e
      obtain ⟨z, a, c, c1, c2, -, -, hz, -, -, ht, hc, hn, hm, rfl⟩ := learnX_is k e2
      refine ⟨(List.append_nil _).symm, fun _ => ?_⟩
      have : (eput D.es z ⟨a, c, none⟩).length ≤ D.es.length + 1 := eput_length
      show ((eput D.es z ⟨a, c, none⟩).length : Int) ≤ D.most
      omega
    · cases e
  | forget z =>
    unfold Rk.ld doneF at e
    dsimp only at e
    split at e
    · cases e
      refine ⟨(List.append_nil _).symm, fun h => ?_⟩
      have : (edrop D.es z).length ≤ D.es.length := edrop_length
      show ((edrop D.es z).length : Int) ≤ D.most
      omega
    · cases e
  | turn ks =>
    unfold Rk.ld doneF at e
    dsimp only at e
    split at e
    · cases e
      exact ⟨rfl, id⟩
    · cases e
  | close a =>
    unfold Rk.ld doneF at e
    cases e
    exact ⟨(List.append_nil _).symm, id⟩
  | hear z a c x =>
    unfold Rk.ld doneF at e
    dsimp only at e
    split at e
    · have e2 := (Prod.mk.inj e).2
      subst e2
      have hk := hearX_keep (D := D) (x := prs z a c)
      refine ⟨by rw [hk.2.1]; exact (List.append_nil _).symm, fun h => ?_⟩
      have hl : (hearX D (prs z a c)).2.es.length = D.es.length := by
        unfold hearX
        split
        · rfl
        · rename_i z2 a2 c2 ep
          unfold hearF
          split
          · rfl
          · rename_i e0 eg
            have := congrArg List.length (eput_names (e := (ansF D e0 z2 a2 c2).2) eg)
            rw [List.length_map, List.length_map] at this
            exact this
      rw [hl, hk.2.2.2.2.1]
      exact h
    · cases e
theorem Hi.keep {W : Wr} {rs : List Rk} {D : Dm} (hh : Hi W rs D) (m1 : 0 ≤ W.most) : D.tab = W.tab ∧ D.near = W.near ∧ D.far = W.far ∧ D.most = W.most ∧ D.keys = W.keys ++ turnsOf rs ∧ D.es.length ≤ D.most := by
  induction hh with
  | nil => exact ⟨rfl, rfl, rfl, rfl, (List.append_nil _).symm, m1⟩
  | snoc hh k hr e k2 ih =>
    obtain ⟨h1, h2, h3, h4, h5, h6⟩ := ih
    obtain ⟨g1, g2, g3, g4, g5, g6⟩ := row_keep k e
    exact ⟨g1.trans h1, g2.trans h2, g3.trans h3, g4.trans h4, by rw [g5, h5, turns_app, List.append_assoc], g6 h6⟩
theorem Hi.L {W : Wr} (hW : W.ok) {rs : List Rk} {D : Dm} (hh : Hi W rs D) : Lk D := by
  cases hh with
  | nil => exact hW.L
  | snoc _ _ _ _ k => exact k
theorem Hi.ok {W : Wr} {rs : List Rk} {D : Dm} (hh : Hi W rs D) : ∀ r ∈ rs, r.ok := by
  induction hh with
  | nil => exact fun r hr => absurd hr List.not_mem_nil
  | snoc hh k hr e k2 ih => exact snoc_all ih hr.1
/-- a row that lets in is read by the keys -/
def OpR (tab : List Int) (keys : List (List Int)) : Rk → Prop
  | .hear z a c x => ∀ d, x = openA z d → (0 ≤ a ∧ a < keys.length) ∧ ∃ n, readF tab (keys.getD a.toNat []) z c = some (n, d)
  | _ => True
theorem OpR.app {tab : List Int} {keys ks : List (List Int)} {r : Rk} (h : OpR tab keys r) : OpR tab (keys ++ ks) r := by
  cases r with
  | hear z a c x =>
    intro d e
    obtain ⟨⟨h0, h1⟩, n, hn⟩ := h d e
    refine ⟨⟨h0, ?_⟩, n, ?_⟩
    · rw [List.length_append]
      omega
    · rw [List.getD_eq_getElem?_getD, List.getElem?_append_left (by omega), ← List.getD_eq_getElem?_getD]
      exact hn
  | _ => trivial
theorem row_opr {D D2 : Dm} (k : Lk D) {r : Rk} (hr : r.ok) (e : doneF D r.ld = (some r.lv, D2)) : OpR D.tab D.keys r := by
  cases r with
  | hear z a c x =>
    intro d ed
    subst ed
    obtain ⟨hz, ⟨hl, hd⟩, -⟩ := hr
    unfold Rk.ld doneF at e
    dsimp only at e
    split at e
    · have key : hearX D (prs z a c) = hearF D z a c := by unfold hearX; rw [pressOf_prs hz hl hd]
      rw [key] at e
      have e1 : LV.tup [.str "hear", prs z a c, (hearF D z a c).1] = Rk.lv (.hear z a c (openA z d)) := Option.some.inj (Prod.mk.inj e).1
      have e2 : (hearF D z a c).1 = openA z d := by
        unfold Rk.lv Rk.is at e1
        rw [LV.tup.injEq, List.cons.injEq, List.cons.injEq, List.cons.injEq] at e1
        exact e1.2.2.1
      obtain ⟨ht, h0, n, hn⟩ := ans_open k.ok e2
      exact ⟨⟨h0, ht.2⟩, n, hn⟩
    · cases e
  | _ => trivial
theorem Hi.opr {W : Wr} (m1 : 0 ≤ W.most) {rs : List Rk} {D : Dm} (hh : Hi W rs D) : ∀ r ∈ rs, OpR D.tab D.keys r := by
  induction hh with
  | nil => exact fun r hr => absurd hr List.not_mem_nil
  | snoc hh k hr e k2 ih =>
    obtain ⟨g1, g2, g3, g4, g5, g6⟩ := row_keep k e
    intro r hm
    rw [g1, g5]
    rcases List.mem_append.mp hm with hm | hm
    · exact (ih r hm).app
    · rw [List.mem_singleton.mp hm]
      exact (row_opr k hr.1 e).app
/-- what was let in -/
def isOpen : LV → Bool
  | .tup (.str w :: _) => decide (w = "open")
  | _ => false
def letR (tab : List Int) (keys : List (List Int)) : Rk → Option LV
  | .hear z a c x => if isOpen x = true then (readF tab (keys.getD a.toNat []) z c).map fun p => .tup [.str z, .int a, .int p.1] else none
  | _ => none
def letF (tab : List Int) (keys : List (List Int)) (rs : List Rk) : List LV := rs.filterMap (letR tab keys)
theorem let_snoc {tab : List Int} {keys : List (List Int)} {rs : List Rk} {r : Rk} : letF tab keys (rs ++ [r]) = letF tab keys rs ++ (letR tab keys r).toList := by
  unfold letF
  rw [List.filterMap_append]
  congr 1
  all_goals
    rw [List.filterMap_cons]
    cases letR tab keys r <;> rfl
/-! short logs -/
def btnR (D : Dm) (z : Str) (e : En) : List Rk := .learn z e.age (codeF D.tab (D.keys.getD e.age.toNat []) z (e.last - 1) 0) (codeF D.tab (D.keys.getD e.age.toNat []) z e.last 0) :: (match e.w with
  | some w => [.hear z w.1 (codeF D.tab (D.keys.getD w.1.toNat []) z w.2 0) (heldA "far")]
  | none => [])
def namR (D : Dm) (z : Str) : List Rk := match eget D.es z with
  | some e => btnR D z e
  | none => []
def shortR (D : Dm) (rs : List Rk) : List Rk := (turnsOf rs).map .turn ++ (srtS (names D.es)).flatMap (namR D) ++ (if D.closed > 0 then [.close D.closed] else [])
theorem btn_len {D : Dm} {z : Str} {e : En} : (btnR D z e).length ≤ 2 := by
  unfold btnR
  split
  · exact Nat.le_refl _
  · show 1 ≤ 2
    decide
theorem nam_len {D : Dm} {z : Str} : (namR D z).length ≤ 2 := by
  unfold namR
  split
  · exact btn_len
  · exact Nat.zero_le _
/-! rows as they stand: tuples or lists, their answers tuples or lists -/
def itemsOf : LV → List LV
  | .tup xs => xs
  | _ => []
/-- a row at y -/
def RowAt (h : LH) (y : LV) : Rk → Prop
  | .hear z a c x => ∃ v, seqOf h y = some [.str "hear", prs z a c, v] ∧ seqOf h v = some (itemsOf x)
  | r => seqOf h y = some r.is
theorem seqOf_mono {h1 h : LH} (s : ∀ a o, h1 a = some o → h a = some o) {x : LV} {xs : List LV} (e : seqOf h1 x = some xs) : seqOf h x = some xs := seqOf_sub s e
theorem RowAt.mono {h1 h : LH} (s : ∀ a o, h1 a = some o → h a = some o) {y : LV} {r : Rk} (k : RowAt h1 y r) : RowAt h y r := by
  cases r with
  | hear z a c x =>
    obtain ⟨v, e1, e2⟩ := k
    exact ⟨v, seqOf_mono s e1, seqOf_mono s e2⟩
  | _ => exact seqOf_mono s k
inductive RowsAt (h : LH) : List LV → List Rk → Prop
  | nil : RowsAt h [] []
  | cons {y : LV} {r : Rk} {ys : List LV} {rs : List Rk} : RowAt h y r → RowsAt h ys rs → RowsAt h (y :: ys) (r :: rs)
theorem RowsAt.mono {h1 h : LH} (s : ∀ a o, h1 a = some o → h a = some o) : ∀ {ys : List LV} {rs : List Rk}, RowsAt h1 ys rs → RowsAt h ys rs
  | _, _, .nil => .nil
  | _, _, .cons a b => .cons (a.mono s) (RowsAt.mono s b)
theorem RowsAt.length {h : LH} : ∀ {ys : List LV} {rs : List Rk}, RowsAt h ys rs → ys.length = rs.length
  | _, _, .nil => rfl
  | _, _, .cons _ b => congrArg (· + 1) b.length
theorem RowsAt.get {h : LH} : ∀ {ys : List LV} {rs : List Rk} {i : Nat} {y : LV}, RowsAt h ys rs → ys[i]? = some y → ∃ r, rs[i]? = some r ∧ RowAt h y r
  | _, _, _, _, .nil, e => by simp at e
  | _, _, 0, _, .cons a _, e => by simp at e; subst e; exact ⟨_, rfl, a⟩
  | _, _, i + 1, y, .cons _ b, e => by
    obtain ⟨r, h1, h2⟩ := RowsAt.get (i := i) (y := y) b (by simpa using e)
    exact ⟨r, by simpa using h1, h2⟩
theorem RowsAt.snoc {h : LH} : ∀ {ys : List LV} {rs : List Rk} {y : LV} {r : Rk}, RowsAt h ys rs → RowAt h y r → RowsAt h (ys ++ [y]) (rs ++ [r])
  | _, _, _, _, .nil, k => .cons k .nil
  | _, _, _, _, .cons a b, k => .cons a (b.snoc k)
theorem RowsAt.take {h : LH} : ∀ {ys : List LV} {rs : List Rk} (n : Nat), RowsAt h ys rs → RowsAt h (ys.take n) (rs.take n)
  | _, _, 0, _ => .nil
  | _, _, n + 1, .nil => .nil
  | _, _, n + 1, .cons a b => .cons a (b.take n)
theorem RowAt.lv {h : LH} {r : Rk} (k : r.ok) : RowAt h r.lv r := by
  cases r with
  | hear z a c x =>
    refine ⟨x, rfl, ?_⟩
    obtain ⟨-, -, (⟨w, rfl, -⟩ | ⟨d, rfl⟩)⟩ := k
    · rfl
    · rfl
  | _ => rfl
theorem RowsAt.lvs {h : LH} : ∀ {rs : List Rk}, (∀ r ∈ rs, r.ok) → RowsAt h (rs.map Rk.lv) rs
  | [], _ => .nil
  | r :: rs, k => .cons (.lv (k r List.mem_cons_self)) (RowsAt.lvs fun r hr => k r (List.mem_cons_of_mem _ hr))
/-- a log: rows one behind the other; Q is carried along -/
def logc (x : LV) (ys : List LV) (rs : List Rk) (Q : HP) : HP := fun h => (seqOf h x = some ys ∧ RowsAt h ys rs) ∧ Q h
def anyH : HP := fun _ => True
section
variable {h : LH} {x : LV} {ys : List LV} {rs : List Rk} {Ps Qs : List HP} {Q : HP}
theorem logc_get (s : stars Ps h) (k : Pk Ps (logc x ys rs Q) Qs) : seqOf h x = some ys ∧ RowsAt h ys rs := by
  obtain ⟨h1, sub, ⟨e1, e2⟩, _⟩ := star_sub_l (show star (logc x ys rs Q) (stars Qs) h from k.out s)
  exact ⟨seqOf_mono sub e1, e2.mono sub⟩
theorem logc_q (s : stars Ps h) (k : Pk Ps (logc x ys rs Q) Qs) : ∃ h1, (∀ a o, h1 a = some o → h a = some o) ∧ Q h1 := by
  obtain ⟨h1, sub, _, e2⟩ := star_sub_l (show star (logc x ys rs Q) (stars Qs) h from k.out s)
  exact ⟨h1, sub, e2⟩
theorem logc_seq (s : stars Ps h) (k : Pk Ps (logc x ys rs Q) Qs) : seqOf h x = some ys := (logc_get s k).1
theorem ent_logT (k : ∀ r ∈ rs, r.ok) : Ent Ps (logc (.tup (rs.map Rk.lv)) (rs.map Rk.lv) rs anyH :: Ps) := fun h s => ⟨fun _ => none, h, fun _ => .inl rfl, by funext a; rfl, ⟨⟨rfl, .lvs k⟩, trivial⟩, s⟩
theorem ent_logL {a : Addr} (k : ∀ r ∈ rs, r.ok) (p : Pk Ps (pts a (.lst (rs.map Rk.lv))) Qs) : Ent Ps (logc (.ref a) (rs.map Rk.lv) rs anyH :: Qs) := fun h s => stars_imp (fun h p => ⟨⟨seqOf_lst p, .lvs k⟩, trivial⟩) (p.out s)
theorem ent_logB {a : Addr} (p : Pk Ps (logc (.ref a) ys rs Q) Qs) : Ent Ps (pts a (.lst ys) :: Qs) := fun h s => stars_imp (fun h p => seqOf_ref p.1.1) (p.out s)
end
/-! ### lists of lists that are looked at by == -/
theorem allD_sub {f g : LV → Option PyData} (hf : ∀ x d, f x = some d → g x = some d) : ∀ {xs : List LV} {ds : List PyData}, allD f xs = some ds → allD g xs = some ds
  | [], _, e => e
  | x :: xs, ds, e => by
    unfold allD at e ⊢
    split at e
    · rename_i d ds' e1 e2
      rw [hf x d e1, allD_sub hf e2]
      exact e
    · cases e
theorem toD_sub {h1 h : LH} (s : ∀ a o, h1 a = some o → h a = some o) : ∀ (n : Nat) (x : LV) (d : PyData), toD h1 n x = some d → toD h n x = some d
  | 0, _, _, e => by cases e
  | n + 1, x, d, e => by
    have ih := toD_sub s n
    cases x with
    | tup xs =>
      unfold toD at e ⊢
      dsimp only at e ⊢
      split at e
      · rename_i ds e1
        rw [allD_sub ih e1]
        exact e
      · cases e
    | rl xs =>
      unfold toD at e ⊢
      dsimp only at e ⊢
      split at e
      · rename_i ds e1
        rw [allD_sub ih e1]
        exact e
      · cases e
    | ref a =>
      unfold toD at e ⊢
      dsimp only at e ⊢
      split at e
      · rename_i xs ea
        rw [s a _ ea]
        dsimp only
        split at e
        · rename_i ds e1
          rw [allD_sub ih e1]
          exact e
        · cases e
      · cases e
    | _ => exact e
def Dt (h : LH) (n : Nat) (x : LV) : Prop := ∃ d, toD h n x = some d ∧ d.canLay0 = true ∧ d.depth ≤ n
theorem Dt.mono {h1 h : LH} (s : ∀ a o, h1 a = some o → h a = some o) {n : Nat} {x : LV} (k : Dt h1 n x) : Dt h n x := by
  obtain ⟨d, e1, e2⟩ := k
  exact ⟨d, toD_sub s _ _ _ e1, e2⟩
theorem Pq.dt {h : LH} {n : Nat} {x : LV} (p : Pq n x) : Dt h n x := p.dat
theorem Dt.all {h : LH} {n : Nat} : ∀ {xs : List LV}, (∀ x ∈ xs, Dt h n x) → ∃ ds, allD (toD h n) xs = some ds ∧ PyData.canLayAll0 ds = true ∧ PyData.depthAll ds ≤ n
  | [], _ => ⟨[], rfl, rfl, Nat.zero_le _⟩
  | x :: xs, k => by
    obtain ⟨d, e1, e2, e3⟩ := k x List.mem_cons_self
    obtain ⟨ds, f1, f2, f3⟩ := Dt.all fun y hy => k y (List.mem_cons_of_mem _ hy)
    refine ⟨d :: ds, ?_, ?_, ?_⟩
    · unfold allD
      rw [e1, f1]
    · simp only [PyData.canLayAll0, e2, f2, Bool.and_self]
    · simp only [PyData.depthAll]
      omega
theorem Dt.lst {h : LH} {n : Nat} {a : Addr} {xs : List LV} (e : h a = some (.lst xs)) (k : ∀ x ∈ xs, Dt h n x) : Dt h (n + 1) (.ref a) := by
  obtain ⟨ds, f1, f2, f3⟩ := Dt.all k
  refine ⟨.list ds, ?_, ?_, ?_⟩
  · unfold toD
    dsimp only
    rw [e]
    dsimp only
    rw [f1]
  · simp only [PyData.canLay0, f2]
  · simp only [PyData.depth]
    omega
theorem toD_same {h : LH} {n : Nat} {a b : Addr} {xs : List LV} (ea : h a = some (.lst xs)) (eb : h b = some (.lst xs)) : toD h n (.ref a) = toD h n (.ref b) := by
  cases n with
  | zero => rfl
  | succ n =>
    unfold toD
    dsimp only
    rw [ea, eb]
theorem toD_lists {h : LH} {n : Nat} {a b : Addr} {xs ys : List LV} (ea : h a = some (.lst xs)) (eb : h b = some (.lst ys)) (e : allD (toD h n) xs = allD (toD h n) ys) : toD h (n + 1) (.ref a) = toD h (n + 1) (.ref b) := by
  unfold toD
  dsimp only
  rw [ea, eb]
  dsimp only
  rw [e]
theorem i_eq_dt {F : Bool → Bool} {a b : Addr} {h : LH} {L : LK} (e : toD h 8 (.ref a) = toD h 8 (.ref b)) (k : Dt h 8 (.ref a)) (q : L (.bl (F true)) h) : gEqW F (.ref a) (.ref b) h L := by
  obtain ⟨d, e1, e2, e3⟩ := k
  have sh : SeqAt.shaped d = true := by
    unfold SeqAt.shaped
    rw [e2]
    simp only [Bool.true_and, decide_eq_true_eq]
    omega
  exact i_eqD e1 (e ▸ e1) sh sh (by rw [SeqAt.eqv_refl _ e2]; exact q) rfl
theorem isOpen_open {z : Str} {d : Int} : isOpen (openA z d) = true := by
  show decide (("open" : Str) = "open") = true
  exact decide_eq_true rfl
theorem let_pl {tab : List Int} {keys : List (List Int)} {rs : List Rk} (hl : rs.length ≤ 1000) : Pl 5 (.tup (letF tab keys rs)) := by
  refine .tup (by have := List.length_filterMap_le (letR tab keys) rs; unfold letF; omega) fun x hx => ?_
  unfold letF at hx
  obtain ⟨r, -, e⟩ := List.mem_filterMap.mp hx
  cases r with
  | hear z a c v =>
    unfold letR at e
    dsimp only at e
    split at e
    · cases er : readF tab (keys.getD a.toNat []) z c with
      | none => rw [er] at e; cases e
      | some p => rw [er] at e; cases e; exact .three .str .int .int
    · cases e
  | _ => cases e
theorem short_len {D : Dm} {rs : List Rk} (k : D.ok) : (shortR D rs).length ≤ (turnsOf rs).length + 25 := by
  have hn : ∀ zs : List Str, (zs.flatMap (namR D)).length ≤ 2 * zs.length := fun zs => by
    induction zs with
    | nil => exact Nat.zero_le _
    | cons z r ih =>
      rw [List.flatMap_cons, List.length_append, List.length_cons]
      have := nam_len (D := D) (z := z)
      omega
  have h1 := hn (srtS (names D.es))
  have h2 : (srtS (names D.es)).length ≤ 12 := by rw [(srtS_perm _).length_eq]; unfold names; rw [List.length_map]; exact k.le
  unfold shortR
  rw [List.length_append, List.length_append, List.length_map]
  split
  · show _ + 1 ≤ _
    omega
  · show _ + 0 ≤ _
    omega
theorem turns_mem {ks : List Int} : ∀ {rs : List Rk}, ks ∈ turnsOf rs → Rk.turn ks ∈ rs
  | .turn k :: r, h => by
    rcases List.mem_cons.mp h with e | e
    · rw [e]; exact List.mem_cons_self
    · exact List.mem_cons_of_mem _ (turns_mem e)
  | .learn .. :: r, h => List.mem_cons_of_mem _ (turns_mem (rs := r) h)
  | .forget _ :: r, h => List.mem_cons_of_mem _ (turns_mem (rs := r) h)
  | .close _ :: r, h => List.mem_cons_of_mem _ (turns_mem (rs := r) h)
  | .hear .. :: r, h => List.mem_cons_of_mem _ (turns_mem (rs := r) h)
theorem turns_len : ∀ {rs : List Rk}, (turnsOf rs).length ≤ rs.length
  | [] => Nat.le_refl _
  | .turn k :: r => Nat.succ_le_succ (turns_len (rs := r))
  | .learn .. :: r => Nat.le_succ_of_le (turns_len (rs := r))
  | .forget _ :: r => Nat.le_succ_of_le (turns_len (rs := r))
  | .close _ :: r => Nat.le_succ_of_le (turns_len (rs := r))
  | .hear .. :: r => Nat.le_succ_of_le (turns_len (rs := r))
theorem short_ok {D : Dm} {rs : List Rk} (k : Lk D) (hr : ∀ r ∈ rs, r.ok) : ∀ r ∈ shortR D rs, r.ok ∧ OpR D.tab D.keys r := by
  have hT := k.ok.tab
  intro r hm
  unfold shortR at hm
  rcases List.mem_append.mp hm with hm | hm
  · rcases List.mem_append.mp hm with hm | hm
    · obtain ⟨ks, hk, rfl⟩ := List.mem_map.mp hm
      exact ⟨hr _ (turns_mem hk), trivial⟩
    · obtain ⟨z, hz, hm⟩ := List.mem_flatMap.mp hm
      obtain ⟨hn, e, he⟩ := names_nm k.ok ((srtS_perm _).mem_iff.mp hz)
      have hme := eget_mem he
      have hev := k.ok.ev _ hme
      have h1 := k.l1 _ hme
      have hwa := k.wa _ hme
      have hew := k.ok.ew _ hme
      dsimp only at hev h1 hwa hew
      unfold namR at hm
      rw [he] at hm
      unfold btnR at hm
      rcases List.mem_cons.mp hm with rfl | hm
      · exact ⟨⟨hn, ⟨codeF_length, codeF_digs hT (by omega) (by omega) (by omega) (by omega)⟩, ⟨codeF_length, codeF_digs hT (by omega) (by omega) (by omega) (by omega)⟩, hev.1⟩, trivial⟩
      · cases ew : e.w with
        | none => rw [ew] at hm; exact absurd hm List.not_mem_nil
        | some w =>
          rw [ew] at hm
          have hw2 := hew w ew
          rw [List.mem_singleton.mp hm]
          refine ⟨⟨hn, ⟨codeF_length, codeF_digs hT (by omega) (by omega) (by omega) (by omega)⟩, .inl ⟨_, rfl, ⟨by decide, by decide⟩⟩⟩, fun d ed => ?_⟩
          unfold heldA openA at ed
          rw [LV.tup.injEq, List.cons.injEq, List.cons.injEq] at ed
          cases ed.2.2
  · split at hm
    · rw [List.mem_singleton.mp hm]
      exact ⟨k.ok.c0, trivial⟩
    · exact absurd hm List.not_mem_nil
theorem ent_log0 {Ps : List HP} : Ent Ps (logc (.tup []) [] [] anyH :: Ps) := fun h s => ⟨fun _ => none, h, fun _ => .inl rfl, by funext a; rfl, ⟨⟨rfl, .nil⟩, trivial⟩, s⟩
theorem logc_lst {h : LH} {a : Addr} {ys : List LV} {rs : List Rk} {Ps Qs : List HP} {Q : HP} (s : stars Ps h) (k : Pk Ps (logc (.ref a) ys rs Q) Qs) : h a = some (.lst ys) := seqOf_ref (logc_get s k).1
/-- two parts as one -/
def both (P Q : HP) : HP := fun h => (∃ h1, (∀ a o, h1 a = some o → h a = some o) ∧ P h1) ∧ ∃ h2, (∀ a o, h2 a = some o → h a = some o) ∧ Q h2
theorem both_in {P Q : HP} {Ps : List HP} {h : LH} (s : stars (P :: Q :: Ps) h) : stars (both P Q :: Ps) h := by
  have s2 : star (star P Q) (stars Ps) h := star_assoc' s
  refine star_mono (fun h1 ⟨ha, hb, d, e, p, q⟩ => ?_) (fun _ x => x) s2
  subst e
  have sr : ∀ a o, hb a = some o → un ha hb a = some o := fun a o e => by
    rw [un_r]
    · exact e
    · rcases d a with e1 | e1
      · exact e1
      · rw [e1] at e; cases e
  exact ⟨⟨ha, fun a o e => un_l e, p⟩, hb, sr, q⟩
/-- rows that are lists, and are looked at by == -/
def hq (ys : List LV) (rs : List Rk) : HP := fun h => RowsAt h ys rs ∧ ∀ y ∈ ys, ∃ a zs, y = .ref a ∧ h a = some (.lst zs) ∧ Dt h 7 y
theorem hq_mono {ys : List LV} {rs : List Rk} {h1 h : LH} (s : ∀ a o, h1 a = some o → h a = some o) (k : hq ys rs h1) : hq ys rs h := ⟨k.1.mono s, fun y hy => by
  obtain ⟨a, zs, e1, e2, e3⟩ := k.2 y hy
  exact ⟨a, zs, e1, s _ _ e2, e3.mono s⟩⟩
theorem hq_get {ys : List LV} {rs : List Rk} {h : LH} {Ps Qs : List HP} (s : stars Ps h) (k : Pk Ps (hq ys rs) Qs) : hq ys rs h := by
  obtain ⟨h1, sub, e⟩ := star_sub_l (show star (hq ys rs) (stars Qs) h from k.out s)
  exact hq_mono sub e
theorem hq_nil {Ps : List HP} {h : LH} (s : stars Ps h) : stars (hq [] [] :: Ps) h := ⟨fun _ => none, h, fun _ => .inl rfl, by funext a; rfl, ⟨.nil, fun y hy => absurd hy List.not_mem_nil⟩, s⟩
theorem hq_row {ys : List LV} {rs : List Rk} {r : Rk} {p : Addr} {Ps : List HP} {h : LH} (hp : ∀ x ∈ r.is, Pq 6 x) (hn : ∀ z a c x, r ≠ .hear z a c x) (s : stars (pts p (.lst r.is) :: hq ys rs :: Ps) h) : stars (hq (ys ++ [.ref p]) (rs ++ [r]) :: Ps) h := by
  refine stars_imp (fun h1 ⟨⟨ha, sa, pa⟩, hb, sb, pb⟩ => ?_) (both_in s)
  have pb := hq_mono sb pb
  have e : h1 p = some (.lst r.is) := sa _ _ pa
  refine ⟨pb.1.snoc ?_, snoc_all pb.2 ⟨p, _, rfl, e, Dt.lst e fun x hx => (hp x hx).dt⟩⟩
  cases r with
  | hear z a c x => exact absurd rfl (hn z a c x)
  | _ => exact seqOf_lst e
theorem hq_hear {ys : List LV} {rs : List Rk} {z : Str} {a : Int} {c : List Int} {x : LV} {p v : Addr} {Ps : List HP} {h : LH} (hz : Nm z) (hp : ∀ w ∈ itemsOf x, Pq 5 w) (s : stars (pts p (.lst [.str "hear", prs z a c, .ref v]) :: pts v (.lst (itemsOf x)) :: hq ys rs :: Ps) h) : stars (hq (ys ++ [.ref p]) (rs ++ [.hear z a c x]) :: Ps) h := by
  have s1 : stars (hq ys rs :: pts p (.lst [.str "hear", prs z a c, .ref v]) :: pts v (.lst (itemsOf x)) :: Ps) h := (Ent.pk (.there (.there .here)) Ent.refl) _ s
  have s2 : stars (pts p (.lst [.str "hear", prs z a c, .ref v]) :: both (pts v (.lst (itemsOf x))) (hq ys rs) :: Ps) h := star_mono (fun _ q => q) (fun _ q => both_in q) s
  refine stars_imp (fun h1 ⟨⟨ha, sa, pa⟩, hb, sb, ⟨h3, s3, p3⟩, h4, s4, p4⟩ => ?_) (both_in s2)
  have pb := hq_mono (fun a o e => sb a o (s4 a o e)) p4
  have e : h1 p = some (.lst [.str "hear", prs z a c, .ref v]) := sa _ _ pa
  have e2 : h1 v = some (.lst (itemsOf x)) := sb _ _ (s3 _ _ p3)
  refine ⟨pb.1.snoc ⟨.ref v, seqOf_lst e, seqOf_lst e2⟩, snoc_all pb.2 ⟨p, _, rfl, e, Dt.lst e fun w hw => ?_⟩⟩
  simp only [List.mem_cons, List.not_mem_nil, or_false] at hw
  rcases hw with rfl | rfl | rfl
  · exact (Pq.low (n := 5) ⟨by decide, by decide⟩).dt
  · exact (Pq.pr (n := 3) hz).dt
  · exact Dt.lst e2 fun w hw => (hp w hw).dt
/-- .. and copies of these -/
def kq (ys us : List LV) (rs : List Rk) : HP := fun h => hq ys rs h ∧ ∀ (j : Nat) u, us[j]? = some u → ∃ y, ys[j]? = some y ∧ toD h 7 u = toD h 7 y ∧ Dt h 7 u
theorem kq_mono {ys us : List LV} {rs : List Rk} {h1 h : LH} (s : ∀ a o, h1 a = some o → h a = some o) (k : kq ys us rs h1) : kq ys us rs h := ⟨hq_mono s k.1, fun j u hu => by
  obtain ⟨y, e1, e2, d, e3, e4⟩ := k.2 j u hu
  exact ⟨y, e1, by rw [toD_sub s _ _ _ e3, toD_sub s _ _ _ (e2 ▸ e3)], (show Dt h1 7 u from ⟨d, e3, e4⟩).mono s⟩⟩
theorem kq_get {ys us : List LV} {rs : List Rk} {h : LH} {Ps Qs : List HP} (s : stars Ps h) (k : Pk Ps (kq ys us rs) Qs) : kq ys us rs h := by
  obtain ⟨h1, sub, e⟩ := star_sub_l (show star (kq ys us rs) (stars Qs) h from k.out s)
  exact kq_mono sub e
theorem kq_nil {ys : List LV} {rs : List Rk} {Ps : List HP} {h : LH} (s : stars (hq ys rs :: Ps) h) : stars (kq ys [] rs :: Ps) h := stars_imp (fun h k => ⟨k, fun j u hu => by simp at hu⟩) s
theorem kq_snoc {ys us : List LV} {rs : List Rk} {Ps : List HP} {h : LH} {p a : Addr} {zs : List LV} (hy : ys[us.length]? = some (.ref a)) (ha : h a = some (.lst zs)) (s : stars (pts p (.lst zs) :: kq ys us rs :: Ps) h) : stars (kq ys (us ++ [.ref p]) rs :: Ps) h := by
  obtain ⟨hA, hB, dd, rfl, p1, p2⟩ := both_in s
  refine ⟨hA, hB, dd, rfl, ?_, p2⟩
  obtain ⟨⟨h1, s1, q1⟩, h2, s2, q2⟩ := p1
  have q2 := kq_mono s2 q2
  have e1 : hA p = some (.lst zs) := s1 _ _ q1
  obtain ⟨a', zs', ea, eb, ec⟩ := q2.1.2 _ (List.mem_of_getElem? hy)
  cases ea
  have ez : zs' = zs := by
    have := un_l (h2 := hB) eb
    rw [ha] at this
    cases this
    rfl
  subst ez
  have et : toD hA 7 (.ref p) = toD hA 7 (.ref a) := toD_same e1 eb
  refine ⟨q2.1, fun j u hu => ?_⟩
  by_cases hj : j < us.length
  · rw [List.getElem?_append_left hj] at hu
    exact q2.2 j u hu
  · rw [List.getElem?_append_right (by omega)] at hu
    have hj2 : j = us.length := by
      by_cases h0 : j - us.length = 0
      · omega
      · rw [List.getElem?_eq_none (by simp; omega)] at hu; cases hu
    subst hj2
    rw [Nat.sub_self] at hu
    cases hu
    refine ⟨_, hy, et, ?_⟩
    obtain ⟨d, e5, e6⟩ := ec
    exact ⟨d, by rw [et]; exact e5, e6⟩
/-- a log of lists, and the copy of it -/
def lq (a b : Addr) : HP := fun h => ∃ d, toD h 8 (.ref a) = some d ∧ toD h 8 (.ref b) = some d ∧ d.canLay0 = true ∧ d.depth ≤ 8
theorem lq_eq {a b : Addr} {F : Bool → Bool} {h h1 : LH} {L : LK} (s : ∀ a o, h1 a = some o → h a = some o) (k : lq a b h1) (q : L (.bl (F true)) h) : gEqW F (.ref a) (.ref b) h L := by
  obtain ⟨d, e1, e2, e3⟩ := k
  have f1 := toD_sub s _ _ _ e1
  have f2 := toD_sub s _ _ _ e2
  exact i_eq_dt (by rw [f1, f2]) ⟨d, f1, e3⟩ q
theorem lq_in {a b : Addr} {ys us : List LV} {rs : List Rk} {Ps : List HP} {h : LH} (hl : us.length = ys.length) (s : stars (pts a (.lst ys) :: pts b (.lst us) :: kq ys us rs :: Ps) h) : stars (logc (.ref a) ys rs (lq a b) :: Ps) h := by
  have s2 : stars (pts a (.lst ys) :: both (pts b (.lst us)) (kq ys us rs) :: Ps) h := star_mono (fun _ q => q) (fun _ q => both_in q) s
  refine stars_imp (fun h1 ⟨⟨ha, sa, pa⟩, hb, sb, ⟨h3, s3, p3⟩, h4, s4, p4⟩ => ?_) (both_in s2)
  have pb := kq_mono (fun a o e => sb a o (s4 a o e)) p4
  have e : h1 a = some (.lst ys) := sa _ _ pa
  have e2 : h1 b = some (.lst us) := sb _ _ (s3 _ _ p3)
  have key : ∀ (us ys : List LV), us.length = ys.length → (∀ (j : Nat) u, us[j]? = some u → ∃ y, ys[j]? = some y ∧ toD h1 7 u = toD h1 7 y) → allD (toD h1 7) us = allD (toD h1 7) ys := by
    intro us
    induction us with
    | nil =>
      intro ys hl _
      rw [List.eq_nil_of_length_eq_zero hl.symm]
    | cons u us ih =>
      intro ys hl k
      cases ys with
      | nil => cases hl
      | cons y ys =>
        obtain ⟨y', e1, e2⟩ := k 0 u rfl
        cases e1
        have e3 := ih ys (Nat.succ.inj hl) fun j u hu => k (j + 1) u hu
        unfold allD
        rw [e2, e3]
  have ek := key us ys hl fun j u hu => by
    obtain ⟨y, e1, e2, _⟩ := pb.2 j u hu
    exact ⟨y, e1, e2⟩
  have dt : Dt h1 8 (.ref a) := Dt.lst e fun y hy => by
    obtain ⟨_, _, _, _, k⟩ := pb.1.2 y hy
    exact k
  obtain ⟨d, e5, e6⟩ := dt
  exact ⟨⟨seqOf_lst e, pb.1.1⟩, d, e5, by rw [← toD_lists e2 e ek] at e5; exact e5, e6⟩
end VL

set_option Elab.async false
set_option linter.all false
set_option maxRecDepth 100000
set_option maxHeartbeats 4000000
/-! tables and tuples of the module -/
namespace VL
open PySem PySem.Spec PyProof.Rows L2
mutual
def Cv.lv : Cv → LV
  | .int i => .int i
  | .str z => .str z
  | .tup xs => .tup (Cv.lvs xs)
def Cv.lvs : List Cv → List LV
  | [] => []
  | c :: cs => Cv.lv c :: Cv.lvs cs
end
mutual
theorem Cv.rv {K : PySem.W.Frag} : ∀ {c : Cv} {u : Value}, Cv.b K c u = true → ∃ v : V, RelV v u ∧ ∀ H, RV K H (Cv.lv c) v
  | .int i, u, h => by
    cases u with
    | int j t =>
      unfold Cv.b at h
      have := of_decide_eq_true h
      subst this
      exact ⟨.int j, ⟨t, rfl⟩, fun H => .int j⟩
    | _ => cases h
  | .str z, u, h => by
    cases u with
    | str y t =>
      unfold Cv.b at h
      have := of_decide_eq_true h
      subst this
      exact ⟨.str y, ⟨t, rfl⟩, fun H => .str y⟩
    | _ => cases h
  | .tup cs, u, h => by
    cases u with
    | ref a =>
      unfold Cv.b at h
      cases q : K.lookup a with
      | none =>
        rw [q] at h
        cases h
      | some o =>
        obtain ⟨oc, od, dt, osl⟩ := o
        rw [q] at h
        cases oc with
        | type c =>
          cases dt with
          | seq its n =>
            dsimp only at h
            rw [Bool.and_eq_true, Bool.and_eq_true] at h
            obtain ⟨h1, h2, h3⟩ := h
            have e1 : c = "tuple" := of_decide_eq_true h1
            have e2 : its.size ≤ 1000 := of_decide_eq_true h2
            subst e1
            obtain ⟨vs, r1, r2⟩ := Cv.rvs h3
            exact ⟨.ref a, rfl, fun H => .tup (.inr ⟨_, its, n, q, rfl, rfl, Nat.le_trans e2 (by decide), r1⟩) (r2 H)⟩
          | _ => cases h
        | _ => cases dt <;> cases h
    | _ => cases h
theorem Cv.rvs {K : PySem.W.Frag} : ∀ {cs : List Cv} {us : List Value}, Cv.bs K cs us = true → ∃ vs : List V, Vals vs us ∧ ∀ H, RVs K H (Cv.lvs cs) vs
  | [], [], _ => ⟨[], .nil, fun H => .nil⟩
  | [], _ :: _, h => by cases h
  | _ :: _, [], h => by cases h
  | c :: cs, u :: us, h => by
    unfold Cv.bs at h
    rw [Bool.and_eq_true] at h
    obtain ⟨v, r1, r2⟩ := Cv.rv h.1
    obtain ⟨vs, s1, s2⟩ := Cv.rvs h.2
    exact ⟨v :: vs, .cons r1 s1, fun H => .cons (r2 H) (s2 H)⟩
end
def tget (t : List (Str × Cv)) (z : Str) : Option LV := (t.find? fun p => decide (p.1 = z)).map fun p => p.2.lv
/-- a table of the module -/
structure KtF (K : PySem.W.Frag) (w : World) (x : Str) (t : List (Str × Cv)) : Prop where
  kt : Kt K w (He.ga K x) (t.map (·.1))
  tb : tabB x t K = true
theorem keys_find {P : Params} {z : Str} : ∀ {l : List DictEntry} {ks : List Str}, l.map He.keyOf = He.keysIn P ks → z ∉ ks → (l.find? fun d => d.key.isStr z) = none ∧ l.any (·.refKey) = false
  | [], _, _, _ => ⟨rfl, rfl⟩
  | e :: r, [], h, _ => by cases h
  | e :: r, k :: ks, h, hz => by
    have h1 : He.keyOf e :: r.map He.keyOf = some (k, PyData.keyHash P k) :: He.keysIn P ks := h
    injection h1 with h2 h3
    obtain ⟨i1, i2⟩ := keys_find h3 (fun m => hz (List.mem_cons_of_mem _ m))
    unfold He.keyOf at h2
    split at h2
    · rename_i x t q
      obtain ⟨h5, h6⟩ := Prod.mk.inj (Option.some.inj h2)
      subst h5
      have hn : e.key.isStr z = false := by
        rw [q]
        show (x == z) = false
        cases hb : x == z with
        | false => rfl
        | true => exact absurd (eq_of_beq hb ▸ List.mem_cons_self) hz
      refine ⟨?_, ?_⟩
      · rw [List.find?_cons, hn]
        exact i1
      · rw [List.any_cons, i2, Bool.or_false]
        unfold DictEntry.refKey
        rw [q]
    · cases h2
section
variable {K : PySem.W.Frag} {w : World} {x : Str} {t : List (Str × Cv)}
theorem KtF.hit (k : KtF K w x t) {z : Str} {r : LV} (e : tget t z = some r) : ∃ u v, PySem.W.nsIn K (He.ga K x) z = some (some u) ∧ RelV v u ∧ ∀ H, RV K H r v := by
  unfold tget at e
  cases q : t.find? fun p => decide (p.1 = z) with
  | none => rw [q] at e; cases e
  | some p =>
    rw [q] at e
    have hm := List.mem_of_find?_eq_some q
    have hp : p.1 = z := by
      have := List.find?_some q
      simpa using this
    have e2 : p.2.lv = r := Option.some.inj e
    subst hp
    subst e2
    have h2 := List.all_eq_true.mp k.tb p hm
    split at h2
    · rename_i u eu
      obtain ⟨v, r1, r2⟩ := Cv.rv h2
      exact ⟨u, v, eu, r1, r2⟩
    · cases h2
theorem KtF.miss (k : KtF K w x t) {z : Str} (e : tget t z = none) : PySem.W.nsIn K (He.ga K x) z = some none := by
  obtain ⟨es, n, kd, ek⟩ := k.kt
  have hz : z ∉ t.map (·.1) := fun hm => by
    obtain ⟨p, hp, rfl⟩ := List.mem_map.mp hm
    unfold tget at e
    cases q : t.find? fun p' => decide (p'.1 = p.1) with
    | none =>
      have := List.find?_eq_none.mp q p hp
      exact this (decide_eq_true rfl)
    | some p' => rw [q] at e; cases e
  obtain ⟨f1, f2⟩ := keys_find ek hz
  unfold PySem.W.nsIn
  rw [kd.at_]
  dsimp only
  rw [f1]
  dsimp only
  rw [f2]
  rfl
end
section
variable {X : Cx} {W : WX} {o e f : Expr} {apos cpos : Pos} {ty tx : TE} {x : Str} {a : Addr} {es : Array DictEntry} {n : Nat}
def tKGet2 (K : PySem.W.Frag) (a : Addr) (ty tx : TE) : TE := fun σ H Q => ty σ H fun y H2 => tx σ H2 fun z H3 => ∃ (w : Str) (r : V), y = .str w ∧ ((∃ u, PySem.W.nsIn K a w = some (some u) ∧ RelV r u) ∨ (PySem.W.nsIn K a w = some none ∧ r = z)) ∧ Q r H3
theorem pe_kget2 (kd : KDict X.K X.w a es n) (ho : PE X o (tC (.ref a))) (he : PE X e ty) (hf : PE X f tx) (m : M2 X o "get" apos e f cpos) : PE X (.Call (.Attribute o "get" apos) [e, f] [] cpos) (tKGet2 X.K a ty tx) := by
  refine ⟨fun pins s σ H Q I h => ?_⟩
  refine wpAny_Call_method m.base m.few m.line PySem.F.plainAttrs_dict PySem.F.slot_dict_get PySem.F.type_dict_get (thn (ho.run pins s σ H (fun x H1 => x = .ref a ∧ tKGet2 X.K a ty tx σ H1 Q) I ⟨rfl, h⟩) fun u s1 ⟨x, H1, I1, rx, ex, q1⟩ => ?_)
  subst ex
  obtain rfl : u = Value.ref a := rx
  have hm1 := PySem.W.mapOf_K (prog := X.prog) (w := X.w) I1.kIn kd.at_ kd.lit
  refine ⟨hm1.typeIs, fun b q => ?_, ?_⟩
  · cases q
    exact ⟨_, I1.kIn _ _ kd.at_, rfl⟩
  rw [m.trees]
  refine Calls.callWith_builtin rfl (Calls.evalArgs_plain (Calls.spliced_cons (thn (he.run pins s1 σ H1 _ I1 q1) fun iv s2 ⟨y, H2, I2, ry, q2⟩ =>
    Calls.spliced_cons (thn (hf.run pins s2 σ H2 _ I2 q2) fun fv s3 ⟨z, H3, I3, rz, w, r, ey, g, q3⟩ => Calls.spliced_nil ?_))))
  subst ey
  obtain ⟨t, rfl⟩ := (show ∃ t, iv = Value.str w t from ry)
  have hm3 := PySem.W.mapOf_K (prog := X.prog) (w := X.w) I3.kIn kd.at_ kd.lit
  refine call_meetsIn PySem.F.slot_dict_get hm3.typeIs PySem.F.entry_dict_get (PySem.F.args_dict_get_3 _ _ _) (meets_dict_get_default (strKind X.prog X.w) a (strKind_is X.prog X.w w t) kd.low fv) ⟨_, hm3, r, H3, I3.tok _, ?_, q3⟩
  rcases g with ⟨u, e1, e2⟩ | ⟨e1, rfl⟩
  · rw [PySem.W.find_K kd.at_ e1]
    exact e2
  · rw [PySem.W.find_K kd.at_ e1]
    exact rz
/-- T.get(k, d) of a table of the module -/
def lKGet (t : List (Str × Cv)) (ly ld : LTE) : LTE := fun s h E L => ly s h E fun y h2 => ld s h2 E fun z h3 => match y with
  | .str w => L ((tget t w).getD z) h3
  | _ => False
theorem le_kget2 {t : List (Str × Cv)} {ly ld : LTE} {npos : Pos} (k : KtF X.K X.w x t) (hm : X.mg x = some (.ref (He.ga X.K x))) (he : LE X W e ly) (hf : LE X W f ld) (hg : Gl X x := by rfl) (hd : (x == ("__debug__" : Str)) = false := by decide) (m : M2 X (.Name x npos) "get" apos e f cpos := by exact ⟨rfl, rfl, rfl, rfl⟩) :
    LE X W (.Call (.Attribute (.Name x npos) "get" apos) [e, f] [] cpos) (lKGet t ly ld) := by
  obtain ⟨es, n, kd, -⟩ := k.kt
  exact peW (pe_kget2 kd (pe_glob hg hm (v := .ref (He.ga X.K x)) rfl hd) he hf m) fun σ H Q ⟨s, h, E, L, z, hl, out⟩ => ⟨s, h, E, _, z, hl, fun v H1 y h1 t1 r1 ry q1 => ⟨s, h1, E, _, z.step t1 r1, q1, fun v2 H2 y2 h2 t2 r2 ry2 q2 => by
    split at q2
    · rename_i w
      cases ry
      cases eg : tget t w with
      | none =>
        rw [eg] at q2
        exact ⟨w, v2, rfl, .inr ⟨k.miss eg, rfl⟩, out _ _ _ _ (t1.trans t2) r2 ry2 q2⟩
      | some r =>
        rw [eg] at q2
        obtain ⟨u, v3, n1, n2, n3⟩ := k.hit eg
        exact ⟨w, v3, rfl, .inl ⟨u, n1, n2⟩, out _ _ _ _ (t1.trans t2) r2 (n3 _) q2⟩
    · exact q2.elim⟩⟩
/-- a tuple of the module -/
theorem le_gtup {c : Cv} {xs : List LV} {pos : Pos} (h : ∃ u, X.mg x = some u ∧ c.b X.K u = true) (ec : c.lv = .tup xs) (hg : Gl X x := by rfl) (hd : (x == ("__debug__" : Str)) = false := by decide) : LE X W (.Name x pos) (lC (.tup xs)) := by
  obtain ⟨u, hm, hb⟩ := h
  obtain ⟨v, r1, r2⟩ := Cv.rv hb
  exact le_cst (pe_glob hg hm (v := v) r1 hd) fun H => by rw [← ec]; exact r2 H
end
def gKGet (t : List (Str × Cv)) : LV → LV → LH → LK → Prop := fun y z h L => match y with
  | .str w => L ((tget t w).getD z) h
  | _ => False
instance st_kget {t : List (Str × Cv)} {ly ld : LTE} {s : LS} {h : LH} {E : LX} {L : LK} : Stp (lKGet t ly ld s h E L) (ly s h E fun y h2 => ld s h2 E fun z h3 => gKGet t y z h3 L) := ⟨id⟩
theorem i_kgetS {t : List (Str × Cv)} {w : Str} {z v : LV} {h : LH} {L : LK} (e : tget t w = some v) (q : L v h) : gKGet t (.str w) z h L := by
  show L ((tget t w).getD z) h
  rw [e]
  exact q
theorem told_int {h : LH} {i : Int} : Told h (.int i) := ⟨_, rfl⟩
theorem tupB_ok {K : PySem.W.Frag} {h : Heap} {mg : Str → Option Value} (G : h.Ns mainGlobals mg) (X : K.In h) {x : Str} {c : Cv} (e : tupB x c K = true) : ∃ u, mg x = some u ∧ Cv.b K c u = true := by
  unfold tupB at e
  cases q : PySem.W.nsIn K mainGlobals x with
  | none => rw [q] at e; cases e
  | some o =>
    rw [q] at e
    cases o with
    | none => cases e
    | some u => exact ⟨u, PySem.W.mg_of X G q, e⟩
theorem Hi.det {W : Wr} {rs : List Rk} {D : Dm} (h1 : Hi W rs D) : ∀ {D' : Dm}, Hi W rs D' → D = D' := by
  induction h1 with
  | nil =>
    intro D' h2
    generalize e : ([] : List Rk) = l at h2
    cases h2 with
    | nil => rfl
    | snoc => exact absurd e (by simp)
  | @snoc rs D D2 r h k hr e k2 ih =>
    intro D' h2
    generalize el : rs ++ [r] = l at h2
    cases h2 with
    | nil => exact absurd el (by simp)
    | @snoc rs' Da Db r' h' k' hr' e' k2' =>
      obtain ⟨e1, e2⟩ := List.append_inj' el rfl
      cases e2
      subst e1
      cases ih h'
      rw [e] at e'
      exact (Prod.mk.inj e').2
/-- row by row -/
theorem Hi.step {W : Wr} {rs : List Rk} {Dn : Dm} (h : Hi W rs Dn) : ∀ {i : Nat} {r : Rk} {D : Dm}, rs[i]? = some r → Hi W (rs.take i) D → ∃ D2, doneF D r.ld = (some r.lv, D2) ∧ Hi W (rs.take (i + 1)) D2 ∧ Lk D ∧ Lk D2 ∧ (r.ok ∧ r.fit D) := by
  induction h with
  | nil =>
    intro i r D hr
    simp at hr
  | @snoc rs D0 D1 r0 h k hr0 e k2 ih =>
    intro i r D hr hd
    by_cases hi : i < rs.length
    · rw [List.getElem?_append_left hi] at hr
      rw [List.take_append_of_le_length (by omega)] at hd
      obtain ⟨D2, f1, f2, f3⟩ := ih hr hd
      exact ⟨D2, f1, by rw [List.take_append_of_le_length (by omega)]; exact f2, f3⟩
    · rw [List.getElem?_append_right (by omega)] at hr
      have hi2 : i = rs.length := by
        by_cases h0 : i - rs.length = 0
        · omega
        · rw [List.getElem?_eq_none (by simp; omega)] at hr; cases hr
      subst hi2
      rw [Nat.sub_self] at hr
      cases hr
      rw [List.take_append_of_le_length (Nat.le_refl _), List.take_length] at hd
      cases h.det hd
      refine ⟨D1, e, ?_, k, k2, hr0⟩
      rw [List.take_of_length_le (by rw [List.length_append]; simp)]
      exact .snoc h k hr0 e k2
/-! ### a short log does what it should -/
theorem take_succ_some {α : Type} {l : List α} {n : Nat} {x : α} (h : l[n]? = some x) : l.take (n + 1) = l.take n ++ [x] := by rw [List.take_succ, h]; rfl
theorem hi_turns {W : Wr} (hW : W.ok) {ks : List (List Int)} (hl : W.keys.length + ks.length ≤ 8) (hk : ∀ k ∈ ks, Digs k ∧ 1 ≤ k.length ∧ k.length ≤ 8) : ∀ n, n ≤ ks.length → Hi W ((ks.take n).map .turn) { W.D with keys := W.keys ++ ks.take n } ∧ Lk { W.D with keys := W.keys ++ ks.take n }
  | 0, _ => by
    rw [List.take_zero, List.append_nil]
    exact ⟨.nil, hW.L⟩
  | n + 1, h => by
    obtain ⟨h1, h2⟩ := hi_turns hW hl hk n (by omega)
    obtain ⟨k, ek⟩ := get_of (xs := ks) (i := n) (by omega)
    have hk' := hk k (List.mem_of_getElem? ek)
    have h8 : (W.keys ++ ks.take n).length < 8 := by rw [List.length_append, List.length_take]; omega
    have e1 : W.keys ++ ks.take (n + 1) = (W.keys ++ ks.take n) ++ [k] := by rw [take_succ_some ek, List.append_assoc]
    have L2 : Lk { W.D with keys := (W.keys ++ ks.take n) ++ [k] } := h2.turn (D := { W.D with keys := W.keys ++ ks.take n }) h8 hk'
    rw [take_succ_some ek, List.map_append, ← List.append_assoc]
    refine ⟨.snoc (r := .turn k) h1 h2 ⟨hk', trivial⟩ ?_ L2, L2⟩
    show doneF _ (.turn k) = _
    unfold doneF
    dsimp only
    rw [if_pos h8]
    rfl
theorem isPrs_of {z : Str} {a : Int} {c : List Int} (hz : Nm z) (hl : c.length = 5) (hd : Digs c) : isPrs (prs z a c) = true := by
  cases e : isPrs (prs z a c) with
  | true => rfl
  | false =>
    have h1 := pressOf_prs (a := a) hz hl hd
    rw [pressOf_not e] at h1
    cases h1
theorem btn_done {W : Wr} {rs : List Rk} {D D' : Dm} (hk : Lk D) (hh : Hi W rs D') (hL : Lk D') (et : D'.tab = D.tab) (ek : D'.keys = D.keys) (en : D'.near = D.near) (ef : D'.far = D.far) (ec : D'.closed = 0) {z : Str} {e : En} (hz : Nm z) (he : eget D.es z = some e) (hn : eget D'.es z = none) (hm : (D'.es.length : Int) < D'.most) :
    ∃ D2, Hi W (rs ++ btnR D z e) D2 ∧ Lk D2 ∧ D2.keys = D'.keys ∧ D2.tab = D'.tab ∧ D2.near = D'.near ∧ D2.far = D'.far ∧ D2.most = D'.most ∧ D2.closed = 0 ∧ (∀ y, eget D2.es y = if y = z then some e else eget D'.es y) ∧ D2.es.length ≤ D'.es.length + 1 := by
  obtain ⟨t', k', n', f', m', c', es'⟩ := D'
  dsimp only at et ek en ef ec hn hm
  subst et ek en ef ec
  have hme := eget_mem he
  have hev := hk.ok.ev _ hme
  have h1 := hk.l1 _ hme
  have hwa := hk.wa _ hme
  have hew := hk.ok.ew _ hme
  dsimp only at hev h1 hwa hew
  obtain ⟨v0, v1, v2, v3⟩ := hev
  have hT := hk.ok.tab
  have n1 := hk.ok.n1
  have c1 : (codeF D.tab (D.keys.getD e.age.toNat []) z (e.last - 1) 0).length = 5 := codeF_length
  have c2 : (codeF D.tab (D.keys.getD e.age.toNat []) z e.last 0).length = 5 := codeF_length
  have g1 : Digs (codeF D.tab (D.keys.getD e.age.toNat []) z (e.last - 1) 0) := codeF_digs hT (by omega) (by omega) (by omega) (by omega)
  have g2 : Digs (codeF D.tab (D.keys.getD e.age.toNat []) z e.last 0) := codeF_digs hT (by omega) (by omega) (by omega) (by omega)
  have tk : Dm.takes (⟨D.tab, D.keys, D.near, D.far, m', 0, es'⟩ : Dm) e.age := ⟨v0, v1⟩
  have el : learnX (⟨D.tab, D.keys, D.near, D.far, m', 0, es'⟩ : Dm) (prs z e.age (codeF D.tab (D.keys.getD e.age.toNat []) z (e.last - 1) 0)) (prs z e.age (codeF D.tab (D.keys.getD e.age.toNat []) z e.last 0)) = .ok (⟨D.tab, D.keys, D.near, D.far, m', 0, eput es' z ⟨e.age, e.last, none⟩⟩ : Dm) := by
    have lc := learn_codes (D := (⟨D.tab, D.keys, D.near, D.far, m', 0, es'⟩ : Dm)) (z := z) (age := e.age) (count := e.last - 1) (d1 := 0) (d2 := 0) hL.ok tk (by omega) (by omega) (by omega) (by omega) (by omega) (by omega)
    rw [show e.last - 1 + 1 = e.last by omega] at lc
    dsimp only at lc
    rw [hn] at lc
    dsimp only at lc
    rw [if_neg (by omega)] at lc
    have r1 := readD_code (D := (⟨D.tab, D.keys, D.near, D.far, m', 0, es'⟩ : Dm)) (z := z) (age := e.age) (count := e.last - 1) (d := 0) hL.ok tk (by omega) (by omega) (by omega) (by omega)
    dsimp only at r1
    unfold learnX
    rw [pressOf_prs hz c1 g1]
    dsimp only
    rw [r1]
    dsimp only
    rw [pressOf_prs hz c2 g2]
    exact lc
  have L1 := hL.learnX el
  have d1 : doneF (⟨D.tab, D.keys, D.near, D.far, m', 0, es'⟩ : Dm) (Rk.ld (.learn z e.age (codeF D.tab (D.keys.getD e.age.toNat []) z (e.last - 1) 0) (codeF D.tab (D.keys.getD e.age.toNat []) z e.last 0))) = (some (Rk.lv (.learn z e.age (codeF D.tab (D.keys.getD e.age.toNat []) z (e.last - 1) 0) (codeF D.tab (D.keys.getD e.age.toNat []) z e.last 0))), (⟨D.tab, D.keys, D.near, D.far, m', 0, eput es' z ⟨e.age, e.last, none⟩⟩ : Dm)) := by
    show doneF (⟨D.tab, D.keys, D.near, D.far, m', 0, es'⟩ : Dm) (.learn _ _) = _
    unfold doneF
    dsimp only
    rw [el]
    rfl
  have H1 := Hi.snoc (r := .learn z e.age (codeF D.tab (D.keys.getD e.age.toNat []) z (e.last - 1) 0) (codeF D.tab (D.keys.getD e.age.toNat []) z e.last 0)) hh hL ⟨⟨hz, ⟨c1, g1⟩, ⟨c2, g2⟩, v0⟩, trivial⟩ d1 L1
  have gl : (eput es' z ⟨e.age, e.last, none⟩).length ≤ es'.length + 1 := eput_length
  have gg : ∀ (x : En) y, eget (eput es' z x) y = if y = z then some x else eget es' y := fun x y => by
    by_cases hy : y = z
    · rw [if_pos hy, hy]
      exact eget_eput
    · rw [if_neg hy]
      exact eget_eput_ne hy
  cases ew : e.w with
  | none =>
    have e0 : (⟨e.age, e.last, none⟩ : En) = e := by cases e; dsimp only at ew; rw [ew]
    refine ⟨_, ?_, L1, rfl, rfl, rfl, rfl, rfl, rfl, ?_, gl⟩
    · unfold btnR
      rw [ew]
      exact H1
    · rw [e0]
      exact gg e
  | some w =>
    obtain ⟨w1, w2, w3, w4⟩ := hwa w ew
    obtain ⟨x1, x2, x3⟩ := hew w ew
    have e0 : (⟨e.age, e.last, some (w.1, w.2)⟩ : En) = e := by cases e; dsimp only at ew; rw [ew]
    have c3 : (codeF D.tab (D.keys.getD w.1.toNat []) z w.2 0).length = 5 := codeF_length
    have g3 : Digs (codeF D.tab (D.keys.getD w.1.toNat []) z w.2 0) := codeF_digs hT (by omega) (by omega) (by omega) (by omega)
    have hd := hear_due (D := (⟨D.tab, D.keys, D.near, D.far, m', 0, eput es' z ⟨e.age, e.last, none⟩⟩ : Dm)) L1.ok (z := z) (age := w.1) (count := w.2) (deed := 0) x1 x2 (by omega) (by omega) (by omega)
    have hs := due_some (D := (⟨D.tab, D.keys, D.near, D.far, m', 0, eput es' z ⟨e.age, e.last, none⟩⟩ : Dm)) (z := z) (age := w.1) (count := w.2) (deed := 0) (e := ⟨e.age, e.last, none⟩) (eget_eput (es := es')) ⟨⟨x1, w2⟩, by show ¬ w.1 < e.age; omega⟩
    have hc : countF (⟨D.tab, D.keys, D.near, D.far, m', 0, eput es' z ⟨e.age, e.last, none⟩⟩ : Dm) ⟨e.age, e.last, none⟩ z w.1 w.2 0 = (heldA "far", ⟨e.age, e.last, some (w.1, w.2)⟩) := by
      unfold countF
      dsimp only
      rw [if_neg (by omega), if_neg (by omega), if_pos (by omega), if_neg (by intro h; cases h)]
    rw [hs, hc] at hd
    dsimp only at hd
    have hX : hearX (⟨D.tab, D.keys, D.near, D.far, m', 0, eput es' z ⟨e.age, e.last, none⟩⟩ : Dm) (prs z w.1 (codeF D.tab (D.keys.getD w.1.toNat []) z w.2 0)) = (heldA "far", (⟨D.tab, D.keys, D.near, D.far, m', 0, eput (eput es' z ⟨e.age, e.last, none⟩) z ⟨e.age, e.last, some (w.1, w.2)⟩⟩ : Dm)) := by
      unfold hearX
      rw [pressOf_prs hz c3 g3]
      dsimp only
      exact hd
    have L2 := L1.hearX (x := prs z w.1 (codeF D.tab (D.keys.getD w.1.toNat []) z w.2 0))
    rw [hX] at L2
    have d2 : doneF (⟨D.tab, D.keys, D.near, D.far, m', 0, eput es' z ⟨e.age, e.last, none⟩⟩ : Dm) (Rk.ld (.hear z w.1 (codeF D.tab (D.keys.getD w.1.toNat []) z w.2 0) (heldA "far"))) = (some (Rk.lv (.hear z w.1 (codeF D.tab (D.keys.getD w.1.toNat []) z w.2 0) (heldA "far"))), (⟨D.tab, D.keys, D.near, D.far, m', 0, eput (eput es' z ⟨e.age, e.last, none⟩) z ⟨e.age, e.last, some (w.1, w.2)⟩⟩ : Dm)) := by
      show doneF _ (.hear _) = _
      unfold doneF
      dsimp only
      rw [if_pos (isPrs_of hz c3 g3), hX]
      rfl
    have H2 := Hi.snoc (r := .hear z w.1 (codeF D.tab (D.keys.getD w.1.toNat []) z w.2 0) (heldA "far")) H1 L1 ⟨⟨hz, ⟨c3, g3⟩, .inl ⟨_, rfl, ⟨by decide, by decide⟩⟩⟩, trivial⟩ d2 L2
    refine ⟨_, ?_, L2, rfl, rfl, rfl, rfl, rfl, rfl, fun y => ?_, ?_⟩
    · unfold btnR
      rw [ew]
      rw [List.append_assoc] at H2
      exact H2
    · show eget (eput (eput es' z ⟨e.age, e.last, none⟩) z ⟨e.age, e.last, some (w.1, w.2)⟩) y = _
      rw [e0]
      by_cases hy : y = z
      · rw [if_pos hy, hy]
        exact eget_eput
      · rw [if_neg hy, eget_eput_ne hy]
        exact eget_eput_ne hy
    · show (eput (eput es' z ⟨e.age, e.last, none⟩) z ⟨e.age, e.last, some (w.1, w.2)⟩).length ≤ _
      have := congrArg List.length (eput_names (e := ⟨e.age, e.last, some (w.1, w.2)⟩) (eget_eput (es := es') (z := z) (e := ⟨e.age, e.last, none⟩)))
      rw [List.length_map, List.length_map] at this
      exact Nat.le_trans (Nat.le_of_eq this) gl
theorem hi_short {W : Wr} (hW : W.ok) {rs : List Rk} {D : Dm} (hh : Hi W rs D) : ∃ D2, Hi W (shortR D rs) D2 ∧ Lk D2 ∧ Sm D2 D := by
  have hL := hh.L hW
  have m1 : 0 ≤ W.most := by have := hW.m1; omega
  obtain ⟨k1, k2, k3, k4, k5, k6⟩ := hh.keep m1
  have hok := hh.ok
  have k8 := hL.ok.k8
  have hks : ∀ k ∈ turnsOf rs, Digs k ∧ 1 ≤ k.length ∧ k.length ≤ 8 := fun k hk => hok _ (turns_mem hk)
  have hlen : W.keys.length + (turnsOf rs).length ≤ 8 := by rw [k5, List.length_append] at k8; exact k8
  obtain ⟨t1, t2⟩ := hi_turns hW hlen hks (turnsOf rs).length (Nat.le_refl _)
  rw [List.take_length] at t1 t2
  have hsl : (srtS (names D.es)).length = D.es.length := by rw [(srtS_perm _).length_eq]; unfold names; rw [List.length_map]
  have hnd : (srtS (names D.es)).Nodup := (srtS_perm _).nodup_iff.mpr hL.ok.nd
  have key : ∀ n, n ≤ (srtS (names D.es)).length → ∃ D', Hi W ((turnsOf rs).map .turn ++ ((srtS (names D.es)).take n).flatMap (namR D)) D' ∧ Lk D' ∧ D'.keys = D.keys ∧ D'.tab = D.tab ∧ D'.near = D.near ∧ D'.far = D.far ∧ D'.most = D.most ∧ D'.closed = 0 ∧ (∀ y, eget D'.es y = if y ∈ (srtS (names D.es)).take n then eget D.es y else none) ∧ D'.es.length ≤ n := by
    intro n
    induction n with
    | zero =>
      intro _
      rw [List.take_zero, List.flatMap_nil, List.append_nil]
      refine ⟨_, t1, t2, k5.symm, k1.symm, k2.symm, k3.symm, k4.symm, rfl, fun y => ?_, Nat.le_refl _⟩
      rw [if_neg List.not_mem_nil]
      rfl
    | succ n ih =>
      intro hn
      obtain ⟨D', g1, g2, g3, g4, g5, g6, g7, g8, g9, g10⟩ := ih (by omega)
      obtain ⟨z, hz⟩ := get_of (xs := srtS (names D.es)) (i := n) (by omega)
      obtain ⟨hnm, e, he⟩ := names_nm hL.ok ((srtS_perm _).mem_iff.mp (List.mem_of_getElem? hz))
      have hne : eget D'.es z = none := by rw [g9, if_neg (take_notin hnd hz)]
      obtain ⟨D2, f1, f2, f3, f4, f5, f6, f7, f8, f9, f10⟩ := btn_done hL g1 g2 g4 g3 g5 g6 g8 hnm he hne (by rw [g7]; omega)
      refine ⟨D2, ?_, f2, f3.trans g3, f4.trans g4, f5.trans g5, f6.trans g6, f7.trans g7, f8, fun y => ?_, by omega⟩
      · rw [take_succ_some hz, List.flatMap_append, ← List.append_assoc]
        have e1 : List.flatMap (namR D) [z] = btnR D z e := by
          rw [List.flatMap_cons, List.flatMap_nil, List.append_nil]
          unfold namR
          rw [he]
        rw [e1]
        exact f1
      · rw [f9, g9, take_succ_some hz]
        by_cases hy : y = z
        · subst hy
          rw [if_pos rfl, if_pos (List.mem_append.mpr (.inr List.mem_cons_self)), he]
        · rw [if_neg hy]
          by_cases hm : y ∈ (srtS (names D.es)).take n
          · rw [if_pos hm, if_pos (List.mem_append.mpr (.inl hm))]
          · rw [if_neg hm, if_neg (fun hc => by
              rcases List.mem_append.mp hc with hc | hc
              · exact hm hc
              · exact hy (List.mem_singleton.mp hc))]
  obtain ⟨D', g1, g2, g3, g4, g5, g6, g7, g8, g9, g10⟩ := key _ (Nat.le_refl _)
  rw [List.take_length] at g1 g9
  have gall : ∀ y, eget D'.es y = eget D.es y := fun y => by
    rw [g9]
    by_cases hm : y ∈ srtS (names D.es)
    · rw [if_pos hm]
    · rw [if_neg hm]
      cases q : eget D.es y with
      | none => rfl
      | some e => exact absurd ((srtS_perm _).mem_iff.mpr (names_iff.mpr ⟨e, q⟩)) hm
  unfold shortR
  by_cases hc : D.closed > 0
  · rw [if_pos hc]
    have cl := hL.cl
    have L3 := g2.close (c := if D.closed > D'.closed then D.closed else D'.closed) (by split <;> omega) (by rw [g3]; split <;> omega)
    refine ⟨_, .snoc (r := .close D.closed) g1 g2 ⟨by show 0 ≤ D.closed; omega, by show D.closed < D'.keys.length; rw [g3]; exact cl⟩ rfl L3, L3, ⟨g4, g3, g5, g6, g7, ?_, gall⟩⟩
    show (if D.closed > D'.closed then D.closed else D'.closed) = D.closed
    rw [if_pos (by omega)]
  · rw [if_neg hc, List.append_nil]
    have c0 := hL.ok.c0
    exact ⟨D', g1, g2, ⟨g4, g3, g5, g6, g7, by omega, gall⟩⟩
end VL

set_option Elab.async false
set_option linter.all false
set_option maxRecDepth 100000
set_option maxHeartbeats 4000000
/-! d.pop(k, x) -/
namespace VL
open PySem PySem.Spec PyProof.Rows L2
def gDPopD (z : LV) : LR2 := fun x y h L => match x with
  | .ref a => (match h a with
    | some (.dic kvs) => (match keyOf y with
      | some k => (∀ v, dget kvs k = some v → L v (up h a (.dic (ddrop kvs k)))) ∧ (dget kvs k = none → L z h)
      | none => False)
    | _ => False)
  | _ => False
def lDPop2 (lo lk lz : LTE) : LTE := fun s h E L => lo s h E fun x h1 => lDicA x h1 ∧ lk s h1 E fun y h2 => lz s h2 E fun z h3 => gDPopD z x y h3 L
section
variable {X : Cx} {W : WX} {o e f : Expr} {lo lk lz : LTE} {apos cpos : Pos}
theorem le_dpop2 (ho : LE X W o lo) (he : LE X W e lk) (hf : LE X W f lz) (m : M2 X o "pop" apos e f cpos := by exact ⟨rfl, rfl, rfl, rfl⟩) : LE X W (.Call (.Attribute o "pop" apos) [e, f] [] cpos) (lDPop2 lo lk lz) :=
  peW (pe_dpop2 ho he hf m) fun σ H Q ⟨s, h, E, L, z, hl, out⟩ => ⟨s, h, E, _, z, hl, fun v H1 x h1 t1 r1 rx q1 => by
    obtain ⟨a, rfl, hd, rfl⟩ := dicA_ok r1 rx q1.1
    refine ⟨a, rfl, hd, s, h1, E, _, z.step t1 r1, q1.2, fun u H2 y h2 t2 r2 ry q2 => ⟨s, h2, E, _, z.step (t1.trans t2) r2, q2, fun w H3 y3 h3 t3 r3 rz q3 => ?_⟩⟩
    unfold gDPopD at q3
    dsimp only at q3
    split at q3
    · rename_i kvs e
      split at q3
      · rename_i k ek
        obtain ⟨ws, e2, hr⟩ := r3 a _ e
        have e3 := keyOf_ok (ry.mono t3) ek
        subst e3
        obtain ⟨d1, d2⟩ := hr.dget (k := k)
        refine ⟨ws, k, e2, rfl, fun v' ev => ?_, fun ev => ?_⟩
        · cases qd : dget kvs k with
          | some x =>
            obtain ⟨w', e4, rv⟩ := d1 x qd
            rw [e4] at ev
            cases ev
            exact out _ _ x _ (((t1.trans t2).trans t3).trans (.dK e2)) (r3.upd (.dK e2) (.mkD upd_same (hr.ddrop.mono (.dK e2)))) (rv.mono (.dK e2)) (q3.1 x qd)
          | none =>
            rw [d2 qd] at ev
            cases ev
        · cases qd : dget kvs k with
          | some x =>
            obtain ⟨w', e4, rv⟩ := d1 x qd
            rw [e4] at ev
            cases ev
          | none => exact out w H3 y3 h3 ((t1.trans t2).trans t3) r3 rz (q3.2 qd)
      · exact q3.elim
    · exact q3.elim⟩
end
section
variable {s : LS} {h : LH} {E : LX} {L : LK} {lo lk lz : LTE} {a : Addr} {y z : LV} {kvs : List (Key × LV)} {mk : Key} {Ps Qs : List HP}
theorem i_dpop2 (q : lo s h E fun x h1 => lDicA x h1 ∧ lk s h1 E fun y h2 => lz s h2 E fun z h3 => gDPopD z x y h3 L) : lDPop2 lo lk lz s h E L := q
instance st_i_dpop2  : Stp (lDPop2 lo lk lz s h E L) (lo s h E fun x h1 => lDicA x h1 ∧ lk s h1 E fun y h2 => lz s h2 E fun z h3 => gDPopD z x y h3 L) := ⟨i_dpop2⟩
theorem i_dpopD (e : h a = some (.dic kvs)) (ek : keyOf y = some mk) (q1 : ∀ v, dget kvs mk = some v → L v (up h a (.dic (ddrop kvs mk)))) (q2 : dget kvs mk = none → L z h) : gDPopD z (.ref a) y h L := by
  unfold gDPopD
  dsimp only
  rw [e]
  dsimp only
  rw [ek]
  exact ⟨q1, q2⟩
/-- both ways at once: the dict without the key -/
theorem s_dpopD (H : stars Ps h) (e : Ent Ps (pts a (.dic kvs) :: Qs)) (ek : keyOf y = some mk) (q1 : ∀ v h', dget kvs mk = some v → stars (pts a (.dic (ddrop kvs mk)) :: Qs) h' → L v h') (q2 : dget kvs mk = none → stars (pts a (.dic kvs) :: Qs) h → L z h) : gDPopD z (.ref a) y h L :=
  i_dpopD (stars_get0 (e _ H)) ek (fun v ev => q1 v _ ev (stars_up0 (e _ H))) fun ev => q2 ev (e _ H)
end
end VL

set_option Elab.async false
set_option linter.all false
set_option maxRecDepth 100000
set_option maxHeartbeats 4000000
/-! doors that know the same; answers by ==; presses that were caught -/
namespace VL
open PySem PySem.Spec PyProof.Rows L2
theorem Sm.symm {N D : Dm} (s : Sm N D) : Sm D N := ⟨s.tab.symm, s.keys.symm, s.near.symm, s.far.symm, s.most.symm, s.closed.symm, fun z => (s.get z).symm⟩
theorem Sm.readD {N D : Dm} (s : Sm N D) {z : Str} {a : Int} {c : List Int} : readD N z a c = readD D z a c := by
  have et : N.takes a = D.takes a := by unfold Dm.takes; rw [s.closed, s.keys]
  unfold VL.readD
  by_cases ht : D.takes a
  · rw [if_pos ht, if_pos (by rw [et]; exact ht), s.keys, s.tab]
  · rw [if_neg ht, if_neg (by rw [et]; exact ht)]
theorem Sm.len {N D : Dm} (s : Sm N D) (kN : N.ok) (kD : D.ok) : N.es.length = D.es.length := by
  have := (s.names kN kD).length_eq
  unfold VL.names at this
  rwa [List.length_map, List.length_map] at this
theorem Sm.ans {N D : Dm} (s : Sm N D) {e : En} {z : Str} {a : Int} {c : List Int} : ansF N e z a c = ansF D e z a c := by
  have et : N.takes a = D.takes a := by unfold Dm.takes; rw [s.closed, s.keys]
  have ec : ∀ c d, countF N e z a c d = countF D e z a c d := fun c d => by unfold countF; rw [s.near, s.far]
  unfold ansF
  by_cases ht : D.takes a
  · rw [if_pos ht, if_pos (by rw [et]; exact ht), s.keys, s.tab]
    simp only [ec]
  · rw [if_neg ht, if_neg (by rw [et]; exact ht)]
theorem Sm.hear {N D : Dm} (s : Sm N D) {z : Str} {a : Int} {c : List Int} : (hearF N z a c).1 = (hearF D z a c).1 ∧ Sm (hearF N z a c).2 (hearF D z a c).2 := by
  unfold hearF
  rw [s.get z]
  cases eget D.es z with
  | none => exact ⟨rfl, s⟩
  | some e =>
    dsimp only
    rw [s.ans]
    exact ⟨rfl, s.put⟩
theorem Sm.hearX {N D : Dm} (s : Sm N D) {x : LV} : (hearX N x).1 = (hearX D x).1 ∧ Sm (hearX N x).2 (hearX D x).2 := by
  unfold VL.hearX
  cases pressOf x with
  | none => exact ⟨rfl, s⟩
  | some p => exact s.hear
theorem Sm.learnX {N D : Dm} (s : Sm N D) (kN : N.ok) (kD : D.ok) {x y : LV} : (∃ N2 D2, learnX N x y = .ok N2 ∧ learnX D x y = .ok D2 ∧ Sm N2 D2) ∨ (∀ M, learnX N x y ≠ .ok M) ∧ (∀ M, learnX D x y ≠ .ok M) := by
  unfold VL.learnX learnR
  cases pressOf x with
  | none => exact .inr ⟨fun _ h => (by cases h), fun _ h => (by cases h)⟩
  | some p =>
    dsimp only
    rw [s.readD]
    cases VL.readD D p.1 p.2.1 p.2.2 with
    | none => exact .inr ⟨fun _ h => (by cases h), fun _ h => (by cases h)⟩
    | some p1 =>
      dsimp only
      cases pressOf y with
      | none => exact .inr ⟨fun _ h => (by cases h), fun _ h => (by cases h)⟩
      | some r =>
        dsimp only
        rw [s.readD]
        cases VL.readD D r.1 r.2.1 r.2.2 with
        | none => exact .inr ⟨fun _ h => (by cases h), fun _ h => (by cases h)⟩
        | some q1 =>
          dsimp only
          rw [s.get p.1, s.most, s.len kN kD]
          split
          · cases eget D.es p.1 with
            | some _ => exact .inr ⟨fun _ h => (by cases h), fun _ h => (by cases h)⟩
            | none =>
              dsimp only
              split
              · exact .inr ⟨fun _ h => (by cases h), fun _ h => (by cases h)⟩
              · exact .inl ⟨_, _, rfl, rfl, s.tab, s.keys, s.near, s.far, rfl, s.closed, s.put.get⟩
          · exact .inr ⟨fun _ h => (by cases h), fun _ h => (by cases h)⟩
theorem eget_edrop_ne {es : Ents} {z y : Str} (h : y ≠ z) : eget (edrop es z) y = eget es y := by
  unfold eget edrop
  rw [List.find?_filter]
  congr 2
  funext p
  by_cases hy : p.1 = y
  · rw [hy]; simp [h]
  · simp [hy]
theorem edrop_get {es : Ents} {z y : Str} : eget (edrop es z) y = if y = z then none else eget es y := by
  by_cases h : y = z
  · rw [if_pos h, h]
    exact eget_edrop
  · rw [if_neg h]
    exact eget_edrop_ne h
theorem Sm.ok {N D : Dm} (s : Sm N D) {d : Ld} (hd : d.ok N) : d.ok D := by
  cases d with
  | close a =>
    show 0 ≤ a ∧ a < D.keys.length
    rw [← s.keys]
    exact hd
  | forget z => exact hd
  | turn k => exact hd
  | _ => trivial
theorem Sm.done {N D : Dm} (s : Sm N D) (kN : N.ok) (kD : D.ok) {d : Ld} : (doneF N d).1 = (doneF D d).1 ∧ Sm (doneF N d).2 (doneF D d).2 := by
  cases d with
  | learn x y =>
    unfold doneF
    dsimp only
    rcases s.learnX kN kD (x := x) (y := y) with ⟨N2, D2, e1, e2, s2⟩ | ⟨n1, n2⟩
    · rw [e1, e2]
      exact ⟨rfl, s2⟩
    · cases e1 : VL.learnX N x y with
      | ok M => exact absurd e1 (n1 M)
      | _ =>
        cases e2 : VL.learnX D x y with
        | ok M => exact absurd e2 (n2 M)
        | _ => exact ⟨rfl, s⟩
  | forget z =>
    unfold doneF
    dsimp only
    rw [s.get z]
    cases eget D.es z with
    | none => exact ⟨rfl, s⟩
    | some e => exact ⟨rfl, s.tab, s.keys, s.near, s.far, s.most, s.closed, fun y => by
        show eget (edrop N.es z) y = eget (edrop D.es z) y
        rw [edrop_get, edrop_get, s.get]⟩
  | turn k =>
    unfold doneF
    dsimp only
    rw [s.keys]
    split
    · exact ⟨rfl, s.tab, rfl, s.near, s.far, s.most, s.closed, s.get⟩
    · exact ⟨rfl, s⟩
  | close a =>
    unfold doneF
    exact ⟨rfl, s.tab, s.keys, s.near, s.far, s.most, by show (if a > N.closed then a else N.closed) = (if a > D.closed then a else D.closed); rw [s.closed], s.get⟩
  | hear x =>
    unfold doneF
    dsimp only
    obtain ⟨e1, e2⟩ := s.hearX (x := x)
    split
    · exact ⟨by rw [e1], e2⟩
    · exact ⟨rfl, s⟩
theorem Pq.mono2 {n : Nat} {x : LV} (p : Pq n x) : Pq (n + 1) x := by
  induction p with
  | non => exact .non
  | int => exact .int
  | str e => exact .str e
  | tup _ ih => exact .tup ih
theorem ans_pq {z : Str} {x : LV} (hz : Nm z) (h : Ans z x) : Pq 5 x := by
  rcases h with ⟨w, rfl, hw⟩ | ⟨d, rfl⟩
  · exact .held (n := 3) hw
  · exact .opened (n := 3) hz.low
theorem rk_pq {r : Rk} (h : r.ok) : Pq 6 r.lv := by
  cases r with
  | learn z a c1 c2 => exact .learnR (n := 2) h.1 h.1
  | forget z => exact .forgetR (n := 2) h
  | turn k => exact .turnR (n := 2)
  | close a => exact .closeR (n := 2)
  | hear z a c x => exact .hearR (n := 2) h.1 (ans_pq h.1 h.2.2)
theorem turns_short {W : Wr} (hW : W.ok) {rs : List Rk} {D D2 : Dm} (h1 : Hi W rs D) (h2 : Hi W (shortR D rs) D2) (hk : D2.keys = D.keys) : turnsOf (shortR D rs) = turnsOf rs := by
  have m1 : 0 ≤ W.most := by have := hW.m1; omega
  have e1 := (h1.keep m1).2.2.2.2.1
  have e2 := (h2.keep m1).2.2.2.2.1
  rw [hk, e1] at e2
  exact (List.append_cancel_left e2).symm
theorem hearX_pq {D : Dm} {x : LV} : Pq 5 (hearX D x).1 := by
  unfold VL.hearX
  cases e : pressOf x with
  | none => exact .held (n := 3) ⟨by decide, by decide⟩
  | some p =>
    obtain ⟨z, a, c, rfl, hz, hl, hd, ep⟩ := prs_some (x := x) (by
      cases ei : isPrs x with
      | true => rfl
      | false => rw [pressOf_not ei] at e; cases e)
    rw [ep] at e
    cases e
    exact .ans (n := 3) hz
/-- a press that was caught, its count -/
structure Ct where
  z : Str
  a : Int
  c : List Int
  n : Int
def Ct.lv (x : Ct) : LV := .tup [prs x.z x.a x.c, .int x.n]
structure Ct.ok (x : Ct) (tab : List Int) (keys : List (List Int)) : Prop where
  nm : Nm x.z
  a0 : 0 ≤ x.a ∧ x.a < keys.length
  len : x.c.length = 5
  dg : Digs x.c
  rd : ∃ d, readF tab (keys.getD x.a.toNat []) x.z x.c = some (x.n, d)
theorem i_eq_nilI {F : Bool → Bool} {xs : List Int} {a b : Addr} {h : LH} {L : LK} (ea : h a = some (.lst (xs.map .int))) (eb : h b = some (.lst [])) (q : L (.bl (F (decide (xs = [])))) h) : gEqW F (.ref a) (.ref b) h L := by
  have sh : ∀ xs : List Int, SeqAt.shaped (PyData.list (xs.map PyData.int)) = true := fun xs => by
    have l1 := lay_ints xs
    have lay : (PyData.list (xs.map PyData.int)).canLay0 = true := by
      simp only [PyData.canLay0, l1.1]
    have dep : (PyData.list (xs.map PyData.int)).depth ≤ 8 := by
      have d1 := l1.2
      simp only [PyData.depth]
      omega
    unfold SeqAt.shaped
    rw [lay]
    simp only [Bool.true_and, decide_eq_true_eq]
    omega
  unfold gEqW
  dsimp only
  have e1 : toD h 8 (.ref a) = some (.list (xs.map PyData.int)) := toD_ints ea
  have e2 : toD h 8 (.ref b) = some (.list (([] : List Int).map PyData.int)) := toD_ints (xs := []) eb
  rw [e1, e2]
  dsimp only
  refine ⟨sh xs, sh [], ?_⟩
  cases xs with
  | nil => exact q
  | cons z r => exact q
theorem last_or {α : Type} (xs : List α) : xs = [] ∨ ∃ us k, xs = us ++ [k] := by
  rcases List.eq_nil_or_concat xs with h | ⟨us, k, h⟩
  · exact .inl h
  · exact .inr ⟨us, k, by rw [h, List.concat_eq_append]⟩
end VL

set_option Elab.async false
set_option linter.all false
set_option maxRecDepth 100000
set_option maxHeartbeats 4000000
/-! tuples of ints: sorted(xs), len(set(xs)) -/
namespace VL
open PySem PySem.Spec PyProof.Rows L2
def rSortedT (K : PySem.W.Frag) : List V → Hp → VK → Prop := fun vs H Q => ∃ (a : Addr) (ns : List Int), vs = [V.ref a] ∧ SqT K H a (ns.map V.int) ∧
  ∀ (ns' : List Int) (p : Addr), ns'.Perm ns → ns'.Pairwise (· ≤ ·) → H p = none → Q (.ref p) (L2.upd H p (.lst (ns'.map V.int)))
theorem cr_sortedT {X : Cx} : CallR X (.builtin "sorted") (rSortedT X.K) := by
  intro pins s σ H vs us Q I r h
  obtain ⟨a, ns, rfl, hs, q⟩ := h
  obtain ⟨its, rv, ⟨o, ho, hc, n, hd⟩, hz⟩ := I.tuple hs
  rw [Vals.ref1 r]
  have hi := rv.ints
  have hz2 : its.length ≤ sizeLine := by rw [← rv.length]; exact hz
  refine Calls.call_function_entry kind_sorted plain_sorted entry_sorted (args_sorted1 _) ?_
  unfold Builtin.«sorted»
  refine wpAny_bind (m := checkCount "sorted" 1 1 _) (wpAny_pure ?_)
  refine wpAny_bind (wpAny_collect_seq a (.inr rfl) ho hc hd (fun h1 k1 => ?_) (by rw [List.size_toArray]; exact hz2))
  have evs : its.toArray.toList = its := by simp
  rw [evs]
  have I2 : Inv X pins σ H { s with heap := h1 } := I.kept (t' := s.toks) k1
  refine wpAny_bind (wpAny_newList ?_ hz2)
  have at1 : (h1.push (seqObj "list" its.toArray 0)).get? h1.objs.size = some (seqObj "list" its.toArray 0) := Heap.get?_push_size _ rfl
  refine wpAny_bind (wpAny_holding (wpAny_call_entry slot_list_sort ⟨_, at1, rfl⟩ entry_list_sort (SrtO.list_sort_ord SrtO.swo_int at1 hz2 (fun h2 => SrtO.ints_sortable hi h2) fun out o1 o2 => ⟨_, rfl, ?_⟩) (args_list_sort _)))
  obtain ⟨i1, i2, i3⟩ := SrtO.ints_out hi o1 o2
  obtain ⟨c, hc2⟩ := sortedHeap_at (vs := its) (out := out.toArray) at1
  have hlen : ((out.map SrtO.iv).map V.int).length ≤ sizeLine := by
    rw [List.length_map, i2.length_eq]
    rw [List.length_map] at hz
    exact hz
  refine wpAny_pure ⟨_, rfl, .ref _, L2.upd H h1.objs.size (.lst ((out.map SrtO.iv).map V.int)), I2.laid (t' := s.toks) (fun b u e => ?_) (Nat.le_refl _) ⟨hlen, out, c, vals_of_ints i1, hc2⟩, rfl, q _ _ i2 i3 (I2.hok.fresh (Nat.le_refl _))⟩
  have lt := Heap.lt_size e
  show (sortedHeap (h1.push (seqObj "list" its.toArray 0)) h1.objs.size its out.toArray).get? b = some u
  rw [sortedHeap_old (Nat.ne_of_lt lt) (by rw [size_push']; exact Nat.lt_succ_of_lt lt)]
  exact Heap.get?_push_of_some _ e
def gSortedT : LCR := fun xs h L => match xs with
  | [.tup ys] => (match intsOf ys with
    | some ns => cNew (.lst ((srtI ns).map .int)) L h
    | none => False)
  | _ => False
theorem src_sortedT {K : PySem.W.Frag} : SRC K (rSortedT K) gSortedT := fun H h xs vs L Q rh rx g o => by
  unfold gSortedT at g
  split at g
  · rename_i ys
    cases rx with
    | cons r1 r2 =>
      cases r2
      cases r1 with
      | tup ht hr =>
        split at g
        · rename_i ns en
          have e2 := intsOf_ok hr en
          subst e2
          refine ⟨_, ns, rfl, ht, fun ns' p hp hs hn => ?_⟩
          rw [srtI_of hp hs]
          exact o _ _ (.ref p) _ (.new hn) (rh.lay hn (.mkL upd_same (RVs.ints _))) (.ref p) (g p (rh.fresh hn))
        · exact g.elim
  · exact g.elim
def tLenSetT (K : PySem.W.Frag) (ta : TE) : TE := fun σ H Q => ta σ H fun x H1 => ∃ (l : Addr) (ns : List Int), x = .ref l ∧ SqT K H1 l (ns.map V.int) ∧ ns.length ≤ 4000 ∧ ∀ ks : List Int, ks.Nodup → (∀ k, k ∈ ks ↔ k ∈ ns) → Q (.int (ks.length : Nat)) H1
theorem pe_lenSetT {X : Cx} {a : Expr} {ta : TE} {p p2 q pos : Pos} (hc : X.calm = true) (hg : Gl X "len") (hm : X.mg "len" = none) (hg2 : Gl X "set") (hm2 : X.mg "set" = none) (ha : PE X a ta)
    (na : starEach [a] X.env = (false, eval a X.env) :: starEach [] X.env := by rfl) : PE X (.Call (.Name "len" p) [.Call (.Name "set" p2) [a] [] q] [] pos) (tLenSetT X.K ta) := by
  refine ⟨fun pins s σ H Q I h => ?_⟩
  refine Call_ (ld_blt I hg hm PySem.boot_len ?_)
  refine PyProof.Rows.callWith_builtin1 (PyProof.Rows.args_cons ?_ rfl) rfl rfl
  refine Call_ (ld_blt I hg2 hm2 PyProof.Rows.boot_set ?_)
  refine PyProof.Rows.callWith_type1 (PyProof.Rows.args_cons (thn (ha.run pins s σ H _ I h) fun v s1 ⟨x, H1, I1, r1, q1⟩ => PyProof.Rows.args_nil ?_) na) na rfl
  obtain ⟨l, ns, rfl, hq, hl, q1⟩ := q1
  cases r1
  obtain ⟨its, r, pl, hz⟩ := I1.tuple hq
  have hi : IntsAre its.toArray.toList ns := by simpa using r.ints
  refine call_set_tupI ns (I1.ok.hd hc) pl hi (by unfold scanBound; omega) fun h2 tk n R hn hk => ?_
  refine PyProof.Rows.args_nil ?_
  obtain ⟨o, es, ep, t, ho, ex, hd, good, nd, mem, few, fit, cnt, ris, led⟩ := R
  have I2 : Inv X pins σ H1 { s1 with heap := h2, toks := tk } := I1.kept hk
  refine call_len_set ho ex hd fit (by rw [cnt] <;> omega) ⟨.int ((es.toList.map L2.keyOf).length : Nat), H1, I2.tok _, ⟨_, by rw [List.length_map, Array.length_toList]⟩, q1 _ nd fun k => ?_⟩
  have := mem k
  rw [decide_eq_true_eq] at this
  exact this.symm
def gLenSetT : LV → LH → LK → Prop := fun x h L => match x with
  | .tup ys => (match intsOf ys with
    | some ns => ns.length ≤ 4000 ∧ ∀ ks : List Int, ks.Nodup → (∀ k, k ∈ ks ↔ k ∈ ns) → L (.int (ks.length : Nat)) h
    | none => False)
  | _ => False
def lLenSetT (la : LTE) : LTE := fun s h E L => la s h E fun x h1 => gLenSetT x h1 L
theorem le_lenSetT {X : Cx} {W : WX} {a : Expr} {la : LTE} {p p2 q pos : Pos} (hc : X.calm = true) (hm : X.mg "len" = none) (hm2 : X.mg "set" = none) (ha : LE X W a la) (hg : Gl X "len" := by rfl) (hg2 : Gl X "set" := by rfl)
    (na : starEach [a] X.env = (false, eval a X.env) :: starEach [] X.env := by rfl) :
    LE X W (.Call (.Name "len" p) [.Call (.Name "set" p2) [a] [] q] [] pos) (lLenSetT la) :=
  peW (pe_lenSetT hc hg hm hg2 hm2 ha na) fun σ H Q ⟨s, h, E, L, z, hl, out⟩ => ⟨s, h, E, _, z, hl, fun v H1 x h1 t1 r1 rx q1 => by
    unfold gLenSetT at q1
    split at q1
    · rename_i ys
      cases rx with
      | tup ht hr =>
        split at q1
        · rename_i ns ei
          have e3 := intsOf_ok hr ei
          subst e3
          exact ⟨_, ns, rfl, ht, q1.1, fun ks k1 k2 => out _ _ (.int _) _ t1 r1 (.int _) (q1.2 ks k1 k2)⟩
        · exact q1.elim
    · exact q1.elim⟩
section
variable {la : LTE} {s : LS} {h : LH} {E : LX} {L : LK} {ns : List Int}
theorem i_lenSetT (q : la s h E fun x h1 => gLenSetT x h1 L) : lLenSetT la s h E L := q
instance st_i_lenSetT : Stp (lLenSetT la s h E L) (la s h E fun x h1 => gLenSetT x h1 L) := ⟨i_lenSetT⟩
theorem s_lenSetT (hz : ns.length ≤ 4000) (q : ∀ ks : List Int, ks.Nodup → (∀ k, k ∈ ks ↔ k ∈ ns) → L (.int (ks.length : Nat)) h) : gLenSetT (.tup (ns.map .int)) h L := by
  unfold gLenSetT
  dsimp only
  rw [intsOf_map]
  exact ⟨hz, q⟩
theorem s_sortedT (q : cNew (.lst ((srtI ns).map .int)) L h) : gSortedT [.tup (ns.map .int)] h L := by
  unfold gSortedT
  dsimp only
  rw [intsOf_map]
  exact q
end
/-! ### tables -/
theorem eqvAll_ints : ∀ xs ys : List Int, PyData.eqvAll (xs.map PyData.int) (ys.map PyData.int) = decide (xs = ys)
  | [], [] => rfl
  | [], _ :: _ => rfl
  | _ :: _, [] => rfl
  | x :: xs, y :: ys => by
    show (PyData.eqv (.int x) (.int y) && PyData.eqvAll (xs.map PyData.int) (ys.map PyData.int)) = _
    rw [eqvAll_ints xs ys]
    show ((x == y) && decide (xs = ys)) = _
    rw [Bool.eq_iff_iff]
    simp only [Bool.and_eq_true, beq_iff_eq, decide_eq_true_eq, List.cons.injEq]
theorem shaped_ints (xs : List Int) : SeqAt.shaped (PyData.list (xs.map PyData.int)) = true := by
  have l1 := lay_ints xs
  have lay : (PyData.list (xs.map PyData.int)).canLay0 = true := by
    simp only [PyData.canLay0, l1.1]
  have dep : (PyData.list (xs.map PyData.int)).depth ≤ 8 := by
    have d1 := l1.2
    simp only [PyData.depth]
    omega
  unfold SeqAt.shaped
  rw [lay]
  simp only [Bool.true_and, decide_eq_true_eq]
  omega
theorem i_eq_intsD {F : Bool → Bool} {xs ys : List Int} {a b : Addr} {h : LH} {L : LK} (ea : h a = some (.lst (xs.map .int))) (eb : h b = some (.lst (ys.map .int))) (q : L (.bl (F (decide (xs = ys)))) h) : gEqW F (.ref a) (.ref b) h L := by
  have e1 : toD h 8 (.ref a) = some (.list (xs.map PyData.int)) := toD_ints ea
  have e2 : toD h 8 (.ref b) = some (.list (ys.map PyData.int)) := toD_ints eb
  refine i_eqD e1 e2 (shaped_ints xs) (shaped_ints ys) ?_ rfl
  show L (.bl (F (PyData.eqvAll (xs.map PyData.int) (ys.map PyData.int)))) h
  rw [eqvAll_ints]
  exact q
theorem nodup_len {α : Type} [BEq α] [LawfulBEq α] : ∀ (l D : List α), l.Nodup → (∀ x ∈ l, x ∈ D) → l.length ≤ D.length
  | [], _, _, _ => Nat.zero_le _
  | x :: l, D, hn, h => by
    have hx := h x List.mem_cons_self
    have hn2 := List.nodup_cons.mp hn
    have ih := nodup_len l (D.erase x) hn2.2 fun y hy => (List.mem_erase_of_ne (fun c : y = x => hn2.1 (by rw [← c]; exact hy))).mpr (h y (List.mem_cons_of_mem _ hy))
    rw [List.length_erase_of_mem hx] at ih
    have := List.length_pos_of_mem hx
    rw [List.length_cons]
    omega
theorem dup_erase {α : Type} [BEq α] [LawfulBEq α] [DecidableEq α] : ∀ {l : List α}, ¬ l.Nodup → ∃ x ∈ l, x ∈ l.erase x
  | [], h => absurd List.nodup_nil h
  | y :: r, h => by
    by_cases hy : y ∈ r
    · exact ⟨y, List.mem_cons_self, by rw [List.erase_cons_head]; exact hy⟩
    · obtain ⟨x, hx, he⟩ := dup_erase fun hr => h (List.nodup_cons.mpr ⟨hy, hr⟩)
      have ne : y ≠ x := fun c => hy (c ▸ hx)
      exact ⟨x, List.mem_cons_of_mem _ hx, by rw [List.erase_cons_tail (by simpa using ne)]; exact List.mem_cons_of_mem _ he⟩
theorem set_card {ks ns : List Int} (hk : ks.Nodup) (h : ∀ k, k ∈ ks ↔ k ∈ ns) : decide (ks.length = ns.length) = decide ns.Nodup := by
  rw [Bool.eq_iff_iff, decide_eq_true_eq, decide_eq_true_eq]
  constructor
  · intro e
    refine Classical.byContradiction fun hn => ?_
    obtain ⟨x, hx, he⟩ := dup_erase hn
    have := nodup_len ks (ns.erase x) hk fun k hk2 => by
      by_cases c : k = x
      · rw [c]; exact he
      · exact (List.mem_erase_of_ne c).mpr ((h k).mp hk2)
    rw [List.length_erase_of_mem hx] at this
    have := List.length_pos_of_mem hx
    omega
  · intro hn
    exact Nat.le_antisymm (nodup_len ks ns hk fun k hk2 => (h k).mp hk2) (nodup_len ns ks hn fun k hk2 => (h k).mpr hk2)
def isIntV : LV → Bool
  | .int _ => true
  | _ => false
def isTab : LV → Bool
  | .tup ys => decide (ys.length = 16) && (ys.all isDig && decide (intsV ys).Nodup)
  | _ => false
def dueTab : LV → Bool
  | .tup ys => decide (ys.length = 16) && (ys.all isIntV && decide (srtI (intsV ys) = rgL 16))
  | _ => false
theorem rg16 : rgL 16 = [0, 1, 2, 3, 4, 5, 6, 7, 8, 9, 10, 11, 12, 13, 14, 15] := by decide
theorem intsV_map : ∀ ns : List Int, intsV (ns.map .int) = ns
  | [] => rfl
  | n :: ns => by
    show n :: intsV (ns.map .int) = _
    rw [intsV_map ns]
theorem ints_of_all : ∀ {ys : List LV}, ys.all isIntV = true → ys = (intsV ys).map .int
  | [], _ => rfl
  | y :: ys, h => by
    rw [List.all_cons, Bool.and_eq_true] at h
    have ih := ints_of_all h.2
    cases y with
    | int i =>
      show LV.int i :: ys = LV.int i :: (intsV ys).map .int
      rw [← ih]
    | _ => exact absurd h.1 (by unfold isIntV; exact Bool.false_ne_true)
theorem tab_due_n {ns : List Int} (hl : ns.length = 16) : ((ns.map LV.int).all isDig && decide ns.Nodup) = decide (srtI ns = rgL 16) := by
  rw [Bool.eq_iff_iff, Bool.and_eq_true, decide_eq_true_eq, decide_eq_true_eq]
  have hd : (ns.map LV.int).all isDig = true ↔ ∀ k ∈ ns, 0 ≤ k ∧ k < 16 := by
    rw [List.all_map, List.all_eq_true]
    refine forall_congr' fun k => forall_congr' fun _ => ?_
    show (decide (0 ≤ k) && decide (k < 16)) = true ↔ _
    rw [Bool.and_eq_true, decide_eq_true_eq, decide_eq_true_eq]
  rw [hd]
  constructor
  · rintro ⟨hk, hn⟩
    have up : (srtI ns).Pairwise (· < ·) := ((srtI_pw ns).and ((srtI_perm ns).nodup_iff.mpr hn)).imp fun ⟨a, b⟩ => by omega
    refine pw_uniq up (by rw [rg16]; decide) fun k => ?_
    rw [(srtI_perm ns).mem_iff]
    have mr : k ∈ rgL 16 ↔ 0 ≤ k ∧ k < 16 := by
      rw [rg16]
      simp only [List.mem_cons, List.not_mem_nil, or_false]
      omega
    rw [mr]
    refine ⟨hk k, fun hk2 => Classical.byContradiction fun c => ?_⟩
    have := nodup_len (k :: ns) (rgL 16) (List.nodup_cons.mpr ⟨c, hn⟩) fun y hy => by
      rw [rg16]
      have : 0 ≤ y ∧ y < 16 := by
        rcases List.mem_cons.mp hy with rfl | hy
        · exact hk2
        · exact hk y hy
      simp only [List.mem_cons, List.not_mem_nil, or_false]
      omega
    rw [List.length_cons, hl, rg16] at this
    exact absurd this (by decide)
  · intro e
    have p : ns.Perm (rgL 16) := e ▸ (srtI_perm ns).symm
    refine ⟨fun k hk => ?_, p.nodup_iff.mpr (by rw [rg16]; decide)⟩
    have := p.mem_iff.mp hk
    rw [rg16] at this
    simp only [List.mem_cons, List.not_mem_nil, or_false] at this
    omega
theorem tab_due (x : LV) : isTab x = dueTab x := by
  cases x with
  | tup ys =>
    show (decide (ys.length = 16) && (ys.all isDig && decide (intsV ys).Nodup)) = (decide (ys.length = 16) && (ys.all isIntV && decide (srtI (intsV ys) = rgL 16)))
    by_cases hl : ys.length = 16
    · cases hi : ys.all isIntV with
      | true =>
        have e := ints_of_all hi
        have el : (intsV ys).length = 16 := by rw [e, List.length_map] at hl; exact hl
        have := tab_due_n el
        rw [← e] at this
        rw [this, Bool.true_and]
      | false =>
        have : ys.all isDig = false := by
          cases hd : ys.all isDig with
          | false => rfl
          | true =>
            rw [List.all_eq_true] at hd
            have : ys.all isIntV = true := List.all_eq_true.mpr fun y hy => by
              have := hd y hy
              cases y with
              | int i => rfl
              | _ => exact absurd this (by unfold isDig; exact Bool.false_ne_true)
            rw [this] at hi
            cases hi
        rw [this, Bool.false_and, Bool.false_and]
    · rw [decide_eq_false hl, Bool.false_and, Bool.false_and]
  | _ => rfl
end VL

set_option Elab.async false
set_option linter.all false
set_option maxRecDepth 100000
set_option maxHeartbeats 4000000
/-! x.upper() -/
namespace VL
open PySem PySem.Spec PyProof.Rows L2
theorem pe_upper {X : Cx} {a : Expr} {ta : TE} {p1 p2 : Pos} (ha : PE X a ta) (hbase : attributeBase a "upper" X.env (eval a X.env) = eval a X.env) (hline : (p1.endLine == p2.line) = true) :
    PE X (.Call (.Attribute a "upper" p1) [] [] p2) (fun σ H Q => ta σ H fun x H1 => ∃ z : Str, x = .str z ∧ z.length ≤ 100000 ∧ Q (.str (Txt.upper z)) H1) := by
  constructor
  intro pins s σ H Q J w
  refine J1.ev_upper hbase hline (thn (ha.run pins s σ H _ J w) ?_)
  rintro v s1 ⟨x, H1, J1, rx, z, rfl, hz, q1⟩
  obtain ⟨t, rfl⟩ := rx
  exact ⟨z, t, rfl, by omega, fun t' k => ⟨.str (Txt.upper z), H1, J1.tok _, ⟨t', rfl⟩, q1⟩⟩
def lUpper (la : LTE) : LTE := fun s h E L => la s h E fun x h1 => match x with
  | .str z => z.length ≤ 100000 ∧ L (.str (Txt.upper z)) h1
  | _ => False
theorem le_upper {X : Cx} {W : WX} {a : Expr} {la : LTE} {p1 p2 : Pos} (ha : LE X W a la) (hbase : attributeBase a "upper" X.env (eval a X.env) = eval a X.env := by rfl) (hline : (p1.endLine == p2.line) = true := by rfl) :
    LE X W (.Call (.Attribute a "upper" p1) [] [] p2) (lUpper la) :=
  peW (pe_upper ha hbase hline) fun σ H Q ⟨s, h, E, L, z, hl, out⟩ => ⟨s, h, E, _, z, hl, fun v H1 x h1 t1 r1 rx q1 => by
    split at q1
    · rename_i z0
      cases rx
      exact ⟨z0, rfl, q1.1, out _ _ (.str _) _ t1 r1 (.str _) q1.2⟩
    · exact q1.elim⟩
section
variable {la : LTE} {s : LS} {h : LH} {E : LX} {L : LK} {z : Str}
def gUpper : LV → LH → LK → Prop := fun x h1 L => match x with
  | .str z => z.length ≤ 100000 ∧ L (.str (Txt.upper z)) h1
  | _ => False
theorem i_upper (q : la s h E fun x h1 => gUpper x h1 L) : lUpper la s h E L := q
instance st_i_upper : Stp (lUpper la s h E L) (la s h E fun x h1 => gUpper x h1 L) := ⟨i_upper⟩
theorem s_upper (hz : z.length ≤ 100000) (q : L (.str (Txt.upper z)) h) : gUpper (.str z) h L := ⟨hz, q⟩
end
/-! xs.extend(ys), ys a tuple -/
def rExtendT (K : PySem.W.Frag) : V → List V → Hp → VK → Prop := fun x vs H Q => ∃ l b xs zs, x = .ref l ∧ vs = [.ref b] ∧ H l = some (.lst xs) ∧ SqT K H b zs ∧ xs.length + zs.length ≤ sizeLine ∧ Q .non (L2.upd H l (.lst (xs ++ zs)))
theorem meets_extend_tup (l b : Addr) (xs ys : Array Value) (n n2 : Nat) (o : Obj) (hlong : ¬ (!xs.isEmpty && Builtin.List.listTooLong (xs.size + ys.size)) = true) (h1z : xs.size ≤ sizeLine) (h2z : xs.size + ys.size ≤ sizeLine + 1) :
    Meets (Builtin.«list.extend» ⟨[.ref l, .ref b], []⟩) (fun _ R s => s.heap.get? l = some { cls := .type "list", dict := none, data := .seq xs n, slots := #[] } ∧ (s.heap.get? b = some o ∧ o.cls = .type "tuple" ∧ o.data = .seq ys n2) ∧ R (.ok (.ret Value.none)) { s with heap := s.heap.update l (Obj.mapSeq fun x => x ++ ys), toks := s.toks }) := fun prog w A R s ⟨hS, ⟨ho, hc, hd⟩, hR⟩ => by
  show wpAny _ A.in1 (Builtin.List.listExtendWith (.ref l) (.ref b) .none) _ _ s
  unfold Builtin.List.listExtendWith
  refine wpAny_bind (wpAny_typeOf ⟨o, ho, hc⟩ ?_)
  have h1 : (Builtin.List.listSameRef (.ref l) (.ref b) || Value.type "tuple" == Value.type "list" || Value.type "tuple" == Value.type "tuple") = true := by simp
  simp only [h1, if_true]
  refine wpAny_bind ?_
  unfold Builtin.List.listItems
  refine wpAny_bind (wpAny_seqItems ho hd (wpAny_pure ?_))
  refine wpAny_bind ?_
  refine wpAny_bind (wpAny_seqItems hS rfl (wpAny_pure ?_))
  rw [if_neg hlong]
  have hz' : (xs ++ ys).size ≤ sizeLine + 1 := by rw [Array.size_append]; exact h2z
  show wpAny _ A.in1 (updateSeq l (· ++ ys) >>= fun _ => ret .none) _ _ s
  refine wpAny_bind (wpAny_updateSeq hS rfl ?_ (hz := h1z) (_hz' := hz'))
  exact wpAny_pure hR
theorem mt_extendT {X : Cx} : MtM X "list.extend" (rExtendT X.K) := by
  intro pins s σ H x vs v us Q I rx rv h
  obtain ⟨l, b, xs, zs, rfl, rfl, hH, hB, hz, q⟩ := h
  cases rx
  obtain ⟨u, rfl, ru⟩ := rv.one
  cases ru
  obtain ⟨z, its, n, r, hl, e⟩ := I.lstM hH
  obtain ⟨its2, r2, ⟨o, ho, hc, n2, hd⟩, hz2⟩ := I.tuple hB
  have hl2 := r2.length
  have hsz : its.toArray.size + its2.toArray.size ≤ sizeLine := by rw [List.size_toArray, List.size_toArray]; omega
  have hlong : ¬ (!its.toArray.isEmpty && Builtin.List.listTooLong (its.toArray.size + its2.toArray.size)) = true := by
    rw [notLongL hsz, Bool.and_false]
    exact Bool.false_ne_true
  refine call_meets F.slot_list_extend ⟨_, e, rfl⟩ F.entry_list_extend (F.args_list_extend_2 _ _)
    (meets_extend_tup l b its.toArray its2.toArray n n2 o hlong (by rw [List.size_toArray]; omega) (by omega)) ⟨e, ⟨ho, hc, hd⟩, ?_⟩
  refine ⟨.non, _, I.lset (its' := its ++ its2) hH e (by simp) (r.append r2) ?_, rfl, q⟩
  rw [List.length_append]
  omega
def gExtendT : LMR := fun x xs h L => match x, xs with
  | .ref a, [.tup zs] => (match h a with
    | some (.lst ys) => ys.length + zs.length ≤ 100000 ∧ L .non (up h a (.lst (ys ++ zs)))
    | _ => False)
  | _, _ => False
theorem srm_extendT {K : PySem.W.Frag} : SRM K (rExtendT K) gExtendT := fun H h x xs v vs L Q rh rx rxs g o => by
  unfold gExtendT at g
  split at g
  · rename_i a zs
    cases rx
    cases rxs with
    | cons r1 t =>
      cases t
      cases r1 with
      | tup ht hq =>
        split at g
        · rename_i ys ea
          obtain ⟨ws, e1, hr⟩ := rh a _ ea
          exact ⟨a, _, ws, _, rfl, rfl, e1, ht, by rw [← hr.length, ← hq.length]; exact szl g.1, o _ _ .non _ (.lst e1) (rh.upd (.lst e1) (.mkL upd_same ((hr.append hq).mono (.lst e1)))) .non g.2⟩
        · exact g.elim
  · exact g.elim
theorem s_extendT {a : Addr} {ys zs xs : List LV} {h : LH} {L : LK} {Ps Qs : List HP} (H : stars Ps h) (e : Ent Ps (pts a (.lst ys) :: Qs)) (hz : ys.length + zs.length ≤ 100000) (es : ys ++ zs = xs) (q : ∀ h', stars (pts a (.lst xs) :: Qs) h' → L .non h') : gExtendT (.ref a) [.tup zs] h L := by
  subst es
  unfold gExtendT
  dsimp only
  rw [stars_get0 (e _ H)]
  exact ⟨hz, q _ (stars_up0 (e _ H))⟩
section
variable {prog : Program} {w : World} {A : Around} {E : Value → Shared → Prop} {s : Shared}
theorem adjust_rev (n : Nat) : Builtin.Slice.sliceAdjust none none (-1) (n : Int) = ((n : Int) - 1, -1) := by
  unfold Builtin.Slice.sliceAdjust
  simp
theorem places_rev (n : Nat) : Builtin.Slice.slicePlaces ((n : Int) - 1) (-1) (-1) = n := by
  unfold Builtin.Slice.slicePlaces
  simp
  try omega
theorem sliceApplied_rev {sl : Addr} {vl vu vs : Value} {n : Nat} {Q : Int × Int × Nat → Shared → Prop} (hs : s.heap.IsSliceOf sl vl vu vs) (pl : IsPart vl none) (pu : IsPart vu none) (ps : IsPart vs (some (-1)))
    (h : Q ((n : Int) - 1, -1, n) s) : wpAny (model prog w) A (Builtin.Slice.sliceApplied (.ref sl) (pure (n : Int))) Q E s := by
  obtain ⟨os, hos, hcs, hds⟩ := id hs
  unfold Builtin.Slice.sliceApplied Builtin.Slice.sliceFields
  refine wpAny_bind (wpAny_bind (wpAny_field hos hds (x := vl) rfl (wpAny_bind (wpAny_field hos hds (x := vu) rfl (wpAny_bind (wpAny_field hos hds (x := vs) rfl (wpAny_pure ?_)))))))
  refine wpAny_bind (HT.slicePart_ ps ?_)
  show wpAny _ _ (if ((-1 : Int) == 0) = true then _ else _) _ _ s
  rw [if_neg (by decide)]
  refine wpAny_bind (HT.slicePart_ pl (wpAny_bind (HT.slicePart_ pu (wpAny_bind (wpAny_pure ?_)))))
  show wpAny _ _ (match Builtin.Slice.sliceAdjust none none (-1) (n : Int) with | (lo, hi) => pure (lo, (-1 : Int), Builtin.Slice.slicePlaces lo hi (-1))) _ _ s
  rw [adjust_rev]
  show wpAny _ _ (pure ((n : Int) - 1, (-1 : Int), Builtin.Slice.slicePlaces ((n : Int) - 1) (-1) (-1))) _ _ s
  rw [places_rev]
  exact wpAny_pure h
theorem pick_rev (xs : Array Value) : ((List.range xs.size).filterMap fun (k : Nat) => xs[((xs.size : Int) - 1 + (k : Int) * -1).toNat]?).toArray = xs.toList.reverse.toArray := by
  congr 1
  have e : (fun k : Nat => xs[((xs.size : Int) - 1 + (k : Int) * -1).toNat]?) = fun k : Nat => (fun i : Nat => xs[i]?) (xs.size - 1 - k) := by
    funext k
    have : ((xs.size : Int) - 1 + (k : Int) * -1).toNat = xs.size - 1 - k := by omega
    rw [this]
  have hr : (List.range xs.size).reverse = (List.range xs.size).map fun k => xs.size - 1 - k := by
    apply List.ext_getElem
    · simp
    · intro i h1 h2
      rw [List.getElem_reverse, List.getElem_range, List.getElem_map, List.getElem_range, List.length_range]
  rw [e, ← PySem.W.krv_all xs, ← List.filterMap_reverse, hr, List.filterMap_map]
  rfl
theorem getItem_tuple_rev {t sl : Addr} {items : Array Value} {vl vu vs : Value} {Q : Value → Shared → Prop} (ht : IsTup s.heap t items) (hs : s.heap.IsSliceOf sl vl vu vs) (pl : IsPart vl none) (pu : IsPart vu none) (ps : IsPart vs (some (-1)))
    (h : Q (.ref s.heap.objs.size) { s with heap := s.heap.push { cls := .type "tuple", data := .seq items.toList.reverse.toArray } })
    (hsz : items.size ≤ sizeLine) : wpAny (model prog w) A (getItem (.ref t) (.ref sl)) Q E s := by
  have htake : sizeOk (.seq items.toList.reverse.toArray) := by
    show items.toList.reverse.toArray.size ≤ sizeLine
    rw [List.size_toArray, List.length_reverse, Array.length_toList]
    exact hsz
  obtain ⟨os, hos, hcs, hds⟩ := id hs
  have hTs : s.TypeIs (.ref sl) "slice" := ⟨os, hos, hcs⟩
  unfold getItem
  try with_reducible refine wpAny_holding ?_
  first | refine wpAny_bind (wpAny_pure ?_) | skip
  refine wpAny_bind (wpAny_sequenceKey ht.typeIs (by decide) ?_)
  refine wpAny_bind (wpAny_callSpecial?_slot (name := Str.ofString "__getitem__") ht.typeIs PyProof.Rows.slot_tuple_getitem
    (wpAny_call_entry PyProof.Rows.slot_tuple_getitem ht.typeIs entry_tuple_getitem ?_ (args_tuple_getitem _ _)))
  show wpAny _ _ (Builtin.Tuple.tupleItemsOf (.ref t) >>= _) _ _ s
  refine wpAny_bind (PyProof.Rows.tupleItemsOf_ ht ?_)
  refine wpAny_bind (wpAny_typeOf hTs ?_)
  rw [if_pos (by decide)]
  refine wpAny_bind (sliceApplied_rev hs pl pu ps ?_)
  have hno : ¬ ((((items.size : Int) - 1) == 0 && (-1 : Int) == 1 && items.size == items.size) = true) := by
    intro q
    rw [Bool.and_eq_true, Bool.and_eq_true] at q
    exact absurd (eq_of_beq q.1.2) (by decide)
  show wpAny _ _ (if (((items.size : Int) - 1) == 0 && (-1 : Int) == 1 && items.size == items.size) = true then _ else _) _ _ s
  rw [if_neg hno, pick_rev]
  first
    | exact wpAny_bind (m := Builtin.Tuple.tupleExact _) (wpAny_newObj_type (wpAny_pure ⟨_, rfl, wpAny_pure h⟩) htake)
    | exact wpAny_bind (m := Builtin.Tuple.tupleExact _) (wpAny_newObj_type (wpAny_bind (wpAny_pure (wpAny_pure ⟨_, rfl, wpAny_pure h⟩))) htake)
end
/-! xs[::-1], xs a tuple -/
def tRevT (K : PySem.W.Frag) (te : TE) : TE := fun σ H Q => te σ H fun x H1 => ∃ a xs, x = .ref a ∧ SqT K H1 a xs ∧ ∀ p, H1 p = none → Q (.ref p) (L2.upd H1 p (.tup xs.reverse))
theorem pe_revT {X : Cx} {e : Expr} {te : TE} {k : Nat} {p1 p2 p3 pos : Pos} (he : PE X e te) : PE X (.Subscript e (.Slice none none (some (.UnaryOp .USub (.Constant (.int 1) k p1) p2)) p3) pos) (tRevT X.K te) := by
  refine ⟨fun pins s σ H Q I h => ?_⟩
  refine Subscript_ (thn (he.run pins s σ H _ I h) fun v s1 ⟨x, H1, I1, r1, q1⟩ => ?_)
  obtain ⟨a, xs, ex, hx, q⟩ := q1
  subst ex
  cases r1
  have hst : PO X (some (.UnaryOp .USub (.Constant (.int 1) k p1) p2)) (tPart (tUn (rU fun i => .int (-i)) (tC (.int 1)))) := po_some (pe_un un_neg pe_int)
  refine wpAny_Slice (thn (po_none.run pins s1 σ H1 (fun o H2 => o = none ∧ H2 = H1) I1 ⟨rfl, rfl⟩) fun vl s2 ⟨l, H2, I2, pl, el, e2⟩ => ?_)
  subst el e2
  refine thn (po_none.run pins s2 σ H2 (fun o H3 => o = none ∧ H3 = H2) I2 ⟨rfl, rfl⟩) fun vu s3 ⟨u, H3, I3, pu, eu, e3⟩ => ?_
  subst eu e3
  refine thn (hst.run pins s3 σ H3 (fun o H4 => o = some (-1) ∧ H4 = H3) I3 ⟨1, rfl, -1, rfl, rfl, rfl⟩) fun vs s4 ⟨o, H4, I4, ps, eo, e4⟩ => ?_
  subst eo e4
  have I5 : Inv X pins σ H4 { s4 with heap := s4.heap.push { cls := .type "slice", data := .fields #[vl, vu, vs] } } := I4.kept (t' := s4.toks) fun b ob q => Heap.get?_push_of_some _ q
  obtain ⟨its, r, ht, hz⟩ := I5.tuple hx
  have hlen := r.length
  show wpAny (model X.prog X.w) X.A (subscriptTail e (.Slice none none (some (.UnaryOp .USub (.Constant (.int 1) k p1) p2)) p3) (.ref a) (.ref s4.heap.objs.size)) (EP X pins σ Q) X.xe { s4 with heap := s4.heap.push { cls := .type "slice", data := .fields #[vl, vu, vs] } }
  refine tail_any (ops := [.ref a, .ref s4.heap.objs.size]) ht.typeIs PyProof.Rows.slot_tuple_getitem.lookup ?_ (by with_unfolding_all rfl)
  refine getItem_tuple_rev ht (Heap.IsSliceOf.new _ vl vu vs) pl pu ps ?_ (by rw [List.size_toArray]; omega)
  have ev : its.toArray.toList = its := by simp
  rw [ev]
  refine ⟨.ref _, _, I5.laid (t' := s4.toks) (o := .tup xs.reverse) (fun b ob q => Heap.get?_push_of_some _ q) (Nat.le_refl _) ?_, rfl, q _ (I5.hok.fresh (Nat.le_refl _))⟩
  exact ⟨by rw [List.length_reverse]; exact hz, _, r.reverse, IsTup.new _ _⟩
def gRevT : LV → LH → LK → Prop := fun x h L => match x with
  | .tup xs => L (.tup xs.reverse) h
  | _ => False
def lRevSlT (la : LTE) : LTE := fun s h E L => la s h E fun x h1 => gRevT x h1 L
theorem le_revslT {X : Cx} {W : WX} {e : Expr} {la : LTE} {k : Nat} {p1 p2 p3 pos : Pos} (ha : LE X W e la) : LE X W (.Subscript e (.Slice none none (some (.UnaryOp .USub (.Constant (.int 1) k p1) p2)) p3) pos) (lRevSlT la) :=
  peW (pe_revT ha) fun σ H Q ⟨s, h, E, L, z, hl, out⟩ => ⟨s, h, E, _, z, hl, fun v H1 x h1 t1 r1 rx q1 => by
    unfold gRevT at q1
    split at q1
    · rename_i xs
      cases rx with
      | tup ht hr =>
        exact ⟨_, _, rfl, ht, fun p hp => out _ _ (.tup _) _ (t1.trans (.new hp)) (r1.new hp) (.tup (.inl (.inl upd_same)) ((hr.reverse).mono (.new hp))) q1⟩
    · exact q1.elim⟩
section
variable {la : LTE} {s : LS} {h : LH} {E : LX} {L : LK} {xs : List LV}
theorem i_revSlT (q : la s h E fun x h1 => gRevT x h1 L) : lRevSlT la s h E L := q
instance st_i_revSlT : Stp (lRevSlT la s h E L) (la s h E fun x h1 => gRevT x h1 L) := ⟨i_revSlT⟩
theorem s_revT (q : L (.tup xs.reverse) h) : gRevT (.tup xs) h L := q
instance st_revT : Stp (gRevT (.tup xs) h L) (L (.tup xs.reverse) h) := ⟨s_revT⟩
end
end VL

set_option Elab.async false
set_option linter.all false
set_option maxRecDepth 100000
set_option maxHeartbeats 4000000
/-! zip of a list and a tuple -/
namespace VL
open PySem PySem.Spec PyProof.Rows L2
def ItzM (K : PySem.W.Frag) (a b : Addr) : It :=
  ⟨fun i H => ∃ (ps qs : List V) (p q : V), SqL K H a ps ∧ SqT K H b qs ∧ ps[i]? = some p ∧ qs[i]? = some q,
    fun i H v H' => ∃ T p q, v = .ref T ∧ H T = none ∧ H' = L2.upd H T (.tup [p, q]) ∧ (∀ ps, SqL K H a ps → ps[i]? = some p) ∧ ∀ qs, SqT K H b qs → qs[i]? = some q,
    fun i H => ∃ ps qs : List V, SqL K H a ps ∧ SqT K H b qs ∧ (i ≤ ps.length ∧ i ≤ qs.length) ∧ (i = ps.length ∨ i = qs.length)⟩
theorem sep_of {z TI TO i1 i2 a b : Addr} (D : ZipApart z TI TO i1 i2 a b) : ZipSep2 z TI TO i1 i2 [i1, a] [i2, b] where
  TIz := D.TIz
  TOz := D.TOz
  TITO := D.TITO
  TIi1 := D.TIi1
  mem1 := by simp
  zf1 := by simp [D.i1z.symm, D.l1z.symm]
  Tf1 := by simp [D.TOi1, D.l1TO.symm]
  TIi2 := D.TIi2
  mem2 := by simp
  zf2 := by simp [D.i2z.symm, D.l2z.symm]
  Tf2 := by simp [D.TOi2, D.l2TO.symm]
  sep1_2 := by simp [D.i12, D.l2i1.symm]
  sep2_1 := by simp [D.i12.symm, D.l1i2.symm]
theorem turn_zipM {P : Program} {w : World} {K : PySem.W.Frag} {elts : List Expr} {kk : Nat} {tpos : Pos} {a b z TI TO i1 i2 : Addr} (D : ZipApart z TI TO i1 i2 a b) :
    Turn P w K (.Tuple elts kk tpos) (ItzM K a b) [z, TI, TO, i1, i2] z (fun i h => IsZip h z TI TO .none ∧ IsPair h TI (.ref i1) (.ref i2) ∧ (∃ x y, IsPair h TO x y) ∧ h.IsListIter i1 a i ∧ h.IsTupleIter i2 b i) where
  mem := by simp
  obj := fun i h ⟨hz, hTI, ⟨x, y, hTO⟩, ⟨o1, e1, _, d1⟩, ⟨o2, e2, _, d2⟩⟩ c hc => by
    simp only [List.mem_cons, List.not_mem_nil, or_false] at hc
    rcases hc with rfl | rfl | rfl | rfl | rfl
    · exact ⟨_, hz, fun v q => nomatch q⟩
    · exact ⟨_, hTI, fun v q => nomatch q⟩
    · exact ⟨_, hTO, fun v q => nomatch q⟩
    · exact ⟨o1, e1, fun v q => by rw [d1] at q; cases q⟩
    · exact ⟨o2, e2, fun v q => by rw [d2] at q; cases q⟩
  keep := fun i h h' ⟨hz, hTI, ⟨x, y, hTO⟩, h1, h2⟩ k =>
    ⟨k z (by simp) _ hz, k TI (by simp) _ hTI, ⟨x, y, k TO (by simp) _ hTO⟩, h1.at fun o q => k i1 (by simp) o q, h2.at fun o q => k i2 (by simp) o q⟩
  item := by
    rintro X hP hw hK hc i pins s σ H E I hf ⟨hz, hTI, ⟨x0, y0, hTO⟩, h1, h2⟩ ⟨ps, qs, p, q, hqp, hqq, hp, hq⟩
    subst hP hw hK
    obtain ⟨its, rv, pl, _⟩ := I.list hqp
    obtain ⟨its2, rv2, pt, _⟩ := I.tuple hqq
    obtain ⟨u, hu, ru⟩ := rv.get hp
    obtain ⟨u2, hu2, ru2⟩ := rv2.get hq
    have hzl : z < s.heap.objs.size := Heap.lt_size hz
    have hh : X.A.in1.handled = none := I.ok.hd hc
    have lt1 : i < its.toArray.size := by
      have := (List.getElem?_eq_some_iff.mp hu).1
      simpa using this
    have lt2 : i < its2.toArray.size := by
      have := (List.getElem?_eq_some_iff.mp hu2).1
      simpa using this
    refine wpAny_pyNext_zipD2_item (sep_of D) (Draws.list hh i1 a D.l1i1 its.toArray) (Draws.tuple hh i2 b D.l2i2 its2.toArray) hz hTI hTO ⟨h1, pl.isList⟩ ⟨h2, pt⟩ lt1 lt2 fun x1 x2 h' tk e1 e2 z' TO' st1 st2 hT hsz hk => ?_
    have ex1 : x1 = u := by
      have : its[i]? = some x1 := by simpa using e1
      rw [hu] at this
      exact (Option.some.inj this).symm
    have ex2 : x2 = u2 := by
      have : its2[i]? = some x2 := by simpa using e2
      rw [hu2] at this
      exact (Option.some.inj this).symm
    subst ex1 ex2
    refine ⟨_, rfl, wpAny_letOwnedTupleGo_zip (s := { s with heap := h', toks := tk }) z' fun h'' z'' sb => ?_⟩
    have hT2 : h''.get? s.heap.objs.size = some { cls := .type "tuple", data := .seq #[x1, x2] } := (sb.2 _ (Nat.ne_of_gt hzl)).trans hT
    have new : ObjOk X.prog X.w (L2.upd H s.heap.objs.size (.tup [p, q])) h'' s.heap.objs.size (.tup [p, q]) :=
      ⟨by show 2 ≤ sizeLine; decide, [x1, x2], .cons ru (.cons ru2 .nil), ⟨_, hT2, rfl, _, rfl⟩⟩
    have ne : ∀ c, c ∉ [z, TI, TO, i1, i2] → c ≠ z ∧ c ≠ TO ∧ c ≠ i1 ∧ c ≠ i2 := fun c hb => ⟨fun e => hb (by simp [e]), fun e => hb (by simp [e]), fun e => hb (by simp [e]), fun e => hb (by simp [e])⟩
    have I1 : Inv X pins σ (L2.upd H s.heap.objs.size (.tup [p, q])) { s with heap := h'', toks := tk } :=
      I.turnedNew (t' := tk) (ch := [z, TI, TO, i1, i2]) (fun c o hb e => by
        obtain ⟨n1, n2, n3, n4⟩ := ne c hb
        exact (sb.2 c n1).trans (hk c o n1 n2 n3 n4 e)) hf (Nat.le_refl _) new
    refine ⟨.ref s.heap.objs.size, _, I1, rfl, ⟨_, p, q, rfl, I.hok.fresh (Nat.le_refl _), rfl, fun l hl => by rw [I.list_inj hl hqp]; exact hp, fun l hl => by rw [I.tuple_inj hl hqq]; exact hq⟩, ⟨z'', ?_, ⟨x1, x2, ?_⟩, ?_, ?_⟩, fun c hcm => ?_⟩
    · exact (sb.2 _ D.TIz).trans (hk _ _ D.TIz D.TITO D.TIi1 D.TIi2 hTI)
    · exact (sb.2 _ D.TOz).trans TO'
    · exact st1.1.at fun o e => (sb.2 _ D.i1z).trans e
    · exact st2.1.at fun o e => (sb.2 _ D.i2z).trans e
    · have hlt : c < s.heap.objs.size := by
        simp only [List.mem_cons, List.not_mem_nil, or_false] at hcm
        rcases hcm with rfl | rfl | rfl | rfl | rfl
        · exact hzl
        · exact Heap.lt_size hTI
        · exact Heap.lt_size hTO
        · obtain ⟨_, e1, _⟩ := h1; exact Heap.lt_size e1
        · obtain ⟨_, e2, _⟩ := h2; exact Heap.lt_size e2
      rw [L2.upd_ne (Nat.ne_of_lt hlt)]
      exact (hf c hcm).1
  done := by
    rintro X hP hw hK hc i pins s σ H E I hf ⟨hz, hTI, ⟨x0, y0, hTO⟩, h1, h2⟩ ⟨ps, qs, hqp, hqq, ⟨l1, l2⟩, hend⟩
    subst hP hw hK
    obtain ⟨its, rv, pl, _⟩ := I.list hqp
    obtain ⟨its2, rv2, pt, _⟩ := I.tuple hqq
    have hh : X.A.in1.handled = none := I.ok.hd hc
    have z1 : its.toArray.size = ps.length := by rw [List.size_toArray]; exact rv.length.symm
    have z2 : its2.toArray.size = qs.length := by rw [List.size_toArray]; exact rv2.length.symm
    refine wpAny_pyNext_zipD2_end (sep_of D) (Draws.list hh i1 a D.l1i1 its.toArray) (Draws.tuple hh i2 b D.l2i2 its2.toArray) hz hTI hTO ⟨h1, pl.isList⟩ ⟨h2, pt⟩ (by omega) (by omega) (by omega) fun h' tk hk => ⟨rfl, I.turnedL (t' := tk) (ch := [z, TI, TO, i1, i2]) (fun c o hb e =>
      hk c o (fun q => hb (by simp [q])) (fun q => hb (by simp [q])) (fun q => hb (by simp [q])) (fun q => hb (by simp [q])) e) hf⟩
  self := fun A i s Q E st h => wpAny_pyIter_zip st.1 h
/-- two lists, two tuples, a list and a tuple -/
def iZipB (K : PySem.W.Frag) (ta : TA) : TI := fun σ H R => ta σ H fun vs H1 => ∃ a b ps qs, vs = [.ref a, .ref b] ∧ ((SqL K H1 a ps ∧ SqL K H1 b qs ∧ R (Itz K a b) H1) ∨ (SqT K H1 a ps ∧ SqT K H1 b qs ∧ R (RZ.ItzT K a b) H1) ∨ (SqL K H1 a ps ∧ SqT K H1 b qs ∧ R (ItzM K a b) H1))
theorem pi_zipB {X : Cx} {e e2 : Expr} {ta : TA} {p pos tpos : Pos} {elts : List Expr} {kk : Nat} (hg : Gl X "zip") (hm : X.mg "zip" = none) (ha : PA X [e, e2] ta)
    (hs : starEach [e, e2] X.env = (false, eval e X.env) :: starEach [e2] X.env := by rfl) (hpl : (backTo pos (starEach [e2] X.env)).any (·.1) = false := by rfl) :
    PI X (.Tuple elts kk tpos) (.Call (.Name "zip" p) [e, e2] [] pos) (iZipB X.K ta) := by
  constructor
  intro pins s σ H R I h
  refine Call_ (ld_blt I hg hm PyProof.Rows.boot_zip (PyProof.Rows.callWith_type1 (thn (ha.run pos pins s σ H _ I h) ?_) hs hpl))
  rintro us s1 ⟨vs, H1, I1, r1, a, b, ps, qs, rfl, q1⟩
  cases r1 with
  | cons r rr =>
    cases rr with
    | cons r' rr =>
      cases rr
      cases r
      cases r'
      obtain ⟨N, hN⟩ : ∃ N, N = s1.heap.objs.size := ⟨_, rfl⟩
      have fresh5 : ∀ c, c ∈ [N + 4, N + 2, N + 3, N, N + 1] → FpOk X pins H1 c := fun c hcm => by
        have hle : s1.heap.objs.size ≤ c := by
          simp only [List.mem_cons, List.not_mem_nil, or_false] at hcm
          omega
        exact I1.fpOk hle (I1.hok.fresh hle)
      subst hN
      rcases q1 with ⟨hqx, hqy, q⟩ | ⟨hqx, hqy, q⟩ | ⟨hqx, hqy, q⟩
      · obtain ⟨its, rv, p1, _⟩ := I1.list hqx
        obtain ⟨its2, rv2, p2, _⟩ := I1.list hqy
        refine call_zip_2 p1.isList p2.isList fun h' hz hTI hTO h1 h2 hsz hk => wpAny_pyIter_zip hz ?_
        exact ⟨_, _, _, _, H1, rfl, I1.kept (t' := s1.toks) hk, turn_zip (PySem.W.ktu_apart s1.heap.objs.size a b p1.lt p2.lt), ⟨hz, hTI, ⟨_, _, hTO⟩, h1, h2⟩, fresh5, q⟩
      · obtain ⟨its, rv, p1, _⟩ := I1.tuple hqx
        obtain ⟨its2, rv2, p2, _⟩ := I1.tuple hqy
        obtain ⟨o1, ho1, _⟩ := id p1
        obtain ⟨o2, ho2, _⟩ := id p2
        refine RZ.call_zipT (show s1.heap.IsTuple a its.toArray from p1) (show s1.heap.IsTuple b its2.toArray from p2) fun h' hz hTI hTO h1 h2 hsz hk => wpAny_pyIter_zip hz ?_
        exact ⟨_, _, _, _, H1, rfl, I1.kept (t' := s1.toks) hk, RZ.turn_zipT (PySem.W.ktu_apart s1.heap.objs.size a b (Heap.lt_size ho1) (Heap.lt_size ho2)), ⟨hz, hTI, ⟨_, _, hTO⟩, h1, h2⟩, fresh5, q⟩
      · obtain ⟨its, rv, p1, _⟩ := I1.list hqx
        obtain ⟨its2, rv2, p2, _⟩ := I1.tuple hqy
        obtain ⟨o2, ho2, _⟩ := id p2
        refine zip_begins2 (begins_list a its.toArray) (begins_tuple b its2.toArray) p1.isList (show s1.heap.IsTuple b its2.toArray from p2) fun h' hz hTI hTO h1 h2 hsz hk => wpAny_pyIter_zip hz ?_
        exact ⟨_, _, _, _, H1, rfl, I1.kept (t' := s1.toks) hk, turn_zipM (PySem.W.ktu_apart s1.heap.objs.size a b p1.lt (Heap.lt_size ho2)), ⟨hz, hTI, ⟨_, _, hTO⟩, ⟨_, h1, rfl, rfl⟩, ⟨_, h2, rfl, rfl⟩⟩, fresh5, q⟩
/-- its turns: the list as it stands, of the tuple's length -/
def itZM (a : Addr) (ys : List LV) : LIt := fun i h => match h a with
  | some (.lst xs) => if xs.length = ys.length ∧ i ≤ ys.length then some (zget xs ys i) else none
  | _ => none
def liZipB (la lb : LTE) : LTI := fun s h E L => la s h E fun x h1 => lb s h1 E fun y h2 => match x, y with
  | .tup xs, .tup ys => L (itZS xs ys) h2
  | .ref a, .ref b => (match h2 a, h2 b with
    | some (.lst _), some (.lst _) => L (itZL a b) h2
    | _, _ => False)
  | .ref a, .tup ys => (match h2 a with
    | some (.lst _) => L (itZM a ys) h2
    | _ => False)
  | _, _ => False
theorem zip_ritM {K : PySem.W.Frag} {H : Hp} {h : LH} {xs ys : List LV} {vs ws : List V} {i : Nat} {J : It} (hl : xs.length = ys.length ∧ i ≤ ys.length) (r : RH K H h) (hr : RVs K H xs vs) (hq : RVs K H ys ws) (stop : (i ≤ vs.length ∧ i ≤ ws.length) ∧ (i = vs.length ∨ i = ws.length) → J.stop i H)
    (go : ∀ v w, vs[i]? = some v → ws[i]? = some w → J.go i H) (yld : ∀ u H', J.yld i H u H' → ∃ T x y, u = .ref T ∧ H T = none ∧ H' = L2.upd H T (.tup [x, y]) ∧ vs[i]? = some x ∧ ws[i]? = some y) :
    match (some (zget xs ys i) : Option (Option LV)) with
    | none => True
    | some none => J.stop i H
    | some (some x) => J.go i H ∧ ∀ v H', J.yld i H v H' → TLe K H H' ∧ RH K H' h ∧ RV K H' x v := by
  have l1 := hr.length
  have l2 := hq.length
  unfold zget
  cases e1 : xs[i]? with
  | none =>
    have := List.getElem?_eq_none_iff.mp e1
    exact stop ⟨⟨by omega, by omega⟩, .inl (by omega)⟩
  | some x =>
    cases e2 : ys[i]? with
    | none =>
      have := List.getElem?_eq_none_iff.mp e2
      exact stop ⟨⟨by omega, by omega⟩, .inr (by omega)⟩
    | some y =>
      obtain ⟨v, hv, rv⟩ := hr.get e1
      obtain ⟨w, hw, rw'⟩ := hq.get e2
      refine ⟨go v w hv hw, fun u H' q => ?_⟩
      obtain ⟨T, a, b, rfl, n, rfl, h1, h2⟩ := yld u H' q
      rw [hv] at h1
      rw [hw] at h2
      cases h1
      cases h2
      exact ⟨.new n, r.new n, pair_new n rv rw'⟩
section
variable {X : Cx} {W : WX} {e e2 : Expr} {la lb : LTE} {p pos tpos : Pos} {elts : List Expr} {kk : Nat}
theorem li_zipB (hm : X.mg "zip" = none) (ha : LE X W e la) (hb : LE X W e2 lb) (hg : Gl X "zip" := by rfl) (hs : starEach [e, e2] X.env = (false, eval e X.env) :: starEach [e2] X.env := by rfl) (hs2 : starEach [e2] X.env = (false, eval e2 X.env) :: starEach [] X.env := by rfl)
    (hpl : (backTo pos (starEach [e2] X.env)).any (·.1) = false := by rfl) : LI X W (.Tuple elts kk tpos) (.Call (.Name "zip" p) [e, e2] [] pos) (liZipB la lb) :=
  piW (pi_zipB hg hm (pa_cons ha (pa_cons hb pa_nil hs2) hs) hs hpl) fun σ H R ⟨s, h, E, L, z, hl, out⟩ => ⟨s, h, E, _, z, hl, fun v H1 x h1 t1 r1 rx q1 => ⟨s, h1, E, _, z.step t1 r1, q1, fun u H2 y h2 t2 r2 ry q2 => by
    have rx2 := rx.mono t2
    cases rx2 with
    | tup ht hr =>
      cases ry with
      | tup ht' hr' =>
        refine ⟨_, _, _, _, rfl, .inr (.inl ⟨ht, ht', out _ H2 _ h2 (t1.trans t2) r2 (fun i H3 h3 t3 r3 => ?_) q2⟩)⟩
        have a1 := t3.t _ _ ht
        have a2 := t3.t _ _ ht'
        exact zip_rit r3 (hr.mono t3) (hr'.mono t3) (fun q => ⟨_, _, a1, a2, q⟩) (fun v w hv hw => ⟨_, _, v, w, a1, a2, hv, hw⟩) fun u H' ⟨T, x, y, q1, q2, q3, q4, q5⟩ => ⟨T, x, y, q1, q2, q3, q4 _ a1, q5 _ a2⟩
      | _ => exact q2.elim
    | ref a =>
      cases ry with
      | ref b =>
        have q3 : (match h2 a, h2 b with
          | some (.lst _), some (.lst _) => L (itZL a b) h2
          | _, _ => False) := q2
        split at q3
        · rename_i xs ys ea eb
          obtain ⟨vs, e1, hr⟩ := r2 a _ ea
          obtain ⟨ws, e2, hq⟩ := r2 b _ eb
          refine ⟨_, _, _, _, rfl, .inl ⟨.of e1, .of e2, out _ H2 _ h2 (t1.trans t2) r2 (fun i H3 h3 t3 r3 => ?_) q3⟩⟩
          unfold itZL
          cases ec : h3 a with
          | none => trivial
          | some oc =>
          cases ed : h3 b with
          | none => cases oc <;> trivial
          | some od =>
          cases oc with
          | lst xs' =>
            cases od with
            | lst ys' =>
              obtain ⟨vs', e1', hr'⟩ := r3 a _ ec
              obtain ⟨ws', e2', hq'⟩ := r3 b _ ed
              exact zip_rit r3 hr' hq' (fun q => ⟨_, _, .of e1', .of e2', q⟩) (fun v w hv hw => ⟨_, _, v, w, .of e1', .of e2', hv, hw⟩) fun u H' ⟨T, x, y, q1, q2, q3, q4, q5⟩ => ⟨T, x, y, q1, q2, q3, q4 _ (.of e1'), q5 _ (.of e2')⟩
            | _ => trivial
          | _ => cases od <;> trivial
        · exact q3.elim
      | tup ht' hr' =>
        have q3 : (match h2 a with
          | some (.lst _) => L (itZM a _) h2
          | _ => False) := q2
        split at q3
        · rename_i xs ea
          obtain ⟨vs, e1, hr⟩ := r2 a _ ea
          refine ⟨_, _, _, _, rfl, .inr (.inr ⟨.of e1, ht', out _ H2 _ h2 (t1.trans t2) r2 (fun i H3 h3 t3 r3 => ?_) q3⟩)⟩
          have a2 := t3.t _ _ ht'
          unfold itZM
          cases ec : h3 a with
          | none => trivial
          | some oc =>
          cases oc with
          | lst xs' =>
            obtain ⟨vs', e1', hr2⟩ := r3 a _ ec
            rename_i ys _ _
            by_cases hlen : xs'.length = ys.length ∧ i ≤ ys.length
            · dsimp only
              rw [if_pos hlen]
              exact zip_ritM hlen r3 hr2 (hr'.mono t3) (fun q => ⟨_, _, .of e1', a2, q⟩) (fun v w hv hw => ⟨_, _, v, w, .of e1', a2, hv, hw⟩) fun u H' ⟨T, x, y, q1, q2, q3, q4, q5⟩ => ⟨T, x, y, q1, q2, q3, q4 _ (.of e1'), q5 _ a2⟩
            · dsimp only
              rw [if_neg hlen]
              trivial
          | _ => trivial
        · exact q3.elim
      | _ => exact q2.elim
    | _ => exact q2.elim⟩⟩
end
def gZipB : LV → LV → LH → (LIt → LH → Prop) → Prop := fun x y h2 L => match x, y with
  | .tup xs, .tup ys => L (itZS xs ys) h2
  | .ref a, .ref b => (match h2 a, h2 b with
    | some (.lst _), some (.lst _) => L (itZL a b) h2
    | _, _ => False)
  | .ref a, .tup ys => (match h2 a with
    | some (.lst _) => L (itZM a ys) h2
    | _ => False)
  | _, _ => False
section
variable {la lb : LTE} {s : LS} {h : LH} {E : LX} {KI : LIt → LH → Prop} {xs ys : List LV} {a b : Addr}
theorem i_zipB (q : la s h E fun x h1 => lb s h1 E fun y h2 => gZipB x y h2 KI) : liZipB la lb s h E KI := q
instance st_i_zipB : Stp (liZipB la lb s h E KI) (la s h E fun x h1 => lb s h1 E fun y h2 => gZipB x y h2 KI) := ⟨i_zipB⟩
theorem i_zipBT (q : KI (itZS xs ys) h) : gZipB (.tup xs) (.tup ys) h KI := q
instance st_i_zipBT : Stp (gZipB (.tup xs) (.tup ys) h KI) (KI (itZS xs ys) h) := ⟨i_zipBT⟩
theorem i_zipBM (ea : h a = some (.lst xs)) (q : KI (itZM a ys) h) : gZipB (.ref a) (.tup ys) h KI := by
  unfold gZipB
  dsimp only
  rw [ea]
  exact q
end
section
variable {nt : NT} {le : LTE} {vs : List Nat} {s : LS} {h : LH} {L : LK} {xs ys : List LV} {a : Addr}
variable {Ps : List HP}
/-- a list and a tuple of one length, each pair by a law that says yes -/
theorem s_zipYM {f : LV → LV → LS} (H : stars Ps h) (ea : ∀ h', stars Ps h' → h' a = some (.lst xs)) (ef : ∀ x y, nt.put (.tup [x, y]) (lwipe s vs) = some (f x y)) (hl : xs.length = ys.length) (hz : xs.length ≤ 100000)
    (pure : ∀ (i : Nat) (x y : LV) (D : Addr) (acc : List LV) (h' : LH) (K : LK), xs[i]? = some x → ys[i]? = some y → stars (pts D (.lst acc) :: Ps) h' → K (.bl true) h' → le (f x y) h' X0 K) (q : ∀ D h', stars (pts D (.lst (List.replicate xs.length (.bl true))) :: Ps) h' → L (.ref D) h') : kLc nt lYes le vs s (itZM a ys) h L := by
  refine s_lcF (m := xs.length) (item := fun i => .tup [xs.getD i .non, ys.getD i .non]) (ff := fun t => match t with
    | .tup [x, y] => f x y
    | _ => s) (fun i acc Qs => acc = List.replicate i (.bl true) ∧ Qs = Ps) H (fun D i acc Qs h' hi hg hs => ?_) (fun i => ef _ _) ⟨_, Ent.refl, rfl, rfl⟩ (fun D i acc Qs h' hi hacc hg hs => ?_) (fun D acc Qs h' hacc hg hs => ?_)
  · obtain ⟨rfl, rfl⟩ := hg
    unfold itZM
    rw [ea h' (stars_drop hs)]
    dsimp only
    rw [if_pos ⟨hl, by omega⟩]
    unfold zget
    by_cases hi2 : i < xs.length
    · rw [if_pos hi2, List.getElem?_eq_getElem hi2, List.getElem?_eq_getElem (l := ys) (by omega), List.getD_eq_getElem?_getD, List.getD_eq_getElem?_getD, List.getElem?_eq_getElem hi2, List.getElem?_eq_getElem (l := ys) (by omega)]
      rfl
    · rw [if_neg hi2, List.getElem?_eq_none (by omega)]
  · obtain ⟨rfl, rfl⟩ := hg
    have e1 : xs[i]? = some (xs.getD i .non) := by rw [List.getD_eq_getElem?_getD, List.getElem?_eq_getElem hi]; rfl
    have e2 : ys[i]? = some (ys.getD i .non) := by rw [List.getD_eq_getElem?_getD, List.getElem?_eq_getElem (l := ys) (by omega)]; rfl
    show le (f (xs.getD i .non) (ys.getD i .non)) h' X0 _
    refine pure i _ _ D _ h' _ e1 e2 hs ?_
    exact gApp.mk hs .here hacc hi hz ⟨by rw [List.replicate_succ'], rfl⟩ Ent.refl
  · obtain ⟨rfl, rfl⟩ := hg
    exact q D h' hs
end
end VL

set_option Elab.async false
set_option linter.all false
set_option maxRecDepth 100000
set_option maxHeartbeats 4000000
/-! rows of a log that are lists, their answers lists -/
namespace VL
open PySem PySem.Spec PyProof.Rows L2
/-- a row that is a list (an answer in it is one, too) -/
def RowL (h : LH) (y : LV) : Rk → Prop
  | .hear z a c x => ∃ p v, y = .ref p ∧ h p = some (.lst [.str "hear", prs z a c, .ref v]) ∧ h v = some (.lst (itemsOf x))
  | r => ∃ p, y = .ref p ∧ h p = some (.lst r.is)
theorem RowL.mono {h1 h : LH} (s : ∀ a o, h1 a = some o → h a = some o) {y : LV} {r : Rk} (k : RowL h1 y r) : RowL h y r := by
  cases r with
  | hear z a c x =>
    obtain ⟨p, v, e, e1, e2⟩ := k
    exact ⟨p, v, e, s _ _ e1, s _ _ e2⟩
  | _ =>
    obtain ⟨p, e, e1⟩ := k
    exact ⟨p, e, s _ _ e1⟩
theorem RowL.at {h : LH} {y : LV} {r : Rk} (k : RowL h y r) : RowAt h y r := by
  cases r with
  | hear z a c x =>
    obtain ⟨p, v, rfl, e1, e2⟩ := k
    exact ⟨.ref v, seqOf_lst e1, seqOf_lst e2⟩
  | _ =>
    obtain ⟨p, rfl, e1⟩ := k
    exact seqOf_lst e1
/-- rows, one by one -/
def lg (ys : List LV) (rs : List Rk) : HP := fun h => ys.length = rs.length ∧ ∀ (i : Nat) y r, ys[i]? = some y → rs[i]? = some r → RowL h y r
theorem lg_get {ys : List LV} {rs : List Rk} {h : LH} {Ps Qs : List HP} (s : stars Ps h) (k : Pk Ps (lg ys rs) Qs) : lg ys rs h := by
  obtain ⟨h1, sub, e1, e2⟩ := star_sub_l (show star (lg ys rs) (stars Qs) h from k.out s)
  exact ⟨e1, fun i y r hy hr => (e2 i y r hy hr).mono sub⟩
theorem lg_nil {Ps : List HP} {h : LH} (s : stars Ps h) : stars (lg [] [] :: Ps) h := ⟨fun _ => none, h, fun _ => .inl rfl, by funext a; rfl, ⟨rfl, fun i y r hy => by cases hy⟩, s⟩
theorem lg_snoc {ys : List LV} {rs : List Rk} {h1 h : LH} {y : LV} {r : Rk} (s : ∀ a o, h1 a = some o → h a = some o) (k : lg ys rs h1) (n : RowL h y r) : lg (ys ++ [y]) (rs ++ [r]) h := by
  refine ⟨by rw [List.length_append, List.length_append, k.1]; rfl, fun i y2 r2 hy hr => ?_⟩
  by_cases hi : i < ys.length
  · rw [List.getElem?_append_left hi] at hy
    rw [List.getElem?_append_left (by rw [← k.1]; exact hi)] at hr
    exact (k.2 i y2 r2 hy hr).mono s
  · rw [List.getElem?_append_right (by omega)] at hy
    rw [List.getElem?_append_right (by rw [← k.1]; omega)] at hr
    have hz : i - ys.length = 0 := by
      have := (List.getElem?_eq_some_iff.mp hy).1
      simp only [List.length_cons, List.length_nil] at this
      omega
    rw [← k.1] at hr
    rw [hz] at hy hr
    cases hy
    cases hr
    exact n
theorem lg_row {ys : List LV} {rs : List Rk} {r : Rk} {p : Addr} {Ps : List HP} {h : LH} (hn : ∀ z a c x, r ≠ .hear z a c x) (s : stars (pts p (.lst r.is) :: lg ys rs :: Ps) h) : stars (lg (ys ++ [.ref p]) (rs ++ [r]) :: Ps) h := by
  refine stars_imp (fun h1 ⟨⟨ha, sa, pa⟩, hb, sb, pb⟩ => ?_) (both_in s)
  have e : h1 p = some (.lst r.is) := sa _ _ pa
  refine lg_snoc sb pb ?_
  cases r with
  | hear z a c x => exact absurd rfl (hn z a c x)
  | _ => exact ⟨p, rfl, e⟩
theorem lg_hear {ys : List LV} {rs : List Rk} {z : Str} {a : Int} {c : List Int} {x : LV} {p v : Addr} {Ps : List HP} {h : LH} (s : stars (pts p (.lst [.str "hear", prs z a c, .ref v]) :: pts v (.lst (itemsOf x)) :: lg ys rs :: Ps) h) : stars (lg (ys ++ [.ref p]) (rs ++ [.hear z a c x]) :: Ps) h := by
  have s2 : stars (pts p (.lst [.str "hear", prs z a c, .ref v]) :: both (pts v (.lst (itemsOf x))) (lg ys rs) :: Ps) h := star_mono (fun _ q => q) (fun _ q => both_in q) s
  refine stars_imp (fun h1 ⟨⟨ha, sa, pa⟩, hb, sb, ⟨h3, s3, p3⟩, h4, s4, p4⟩ => ?_) (both_in s2)
  refine lg_snoc (fun a o e => sb a o (s4 a o e)) p4 ⟨p, v, rfl, sa _ _ pa, sb _ _ (s3 _ _ p3)⟩
/-- two such rows are the same by == -/
theorem rowL_same {h : LH} {y u : LV} {r : Rk} (k1 : RowL h y r) (k2 : RowL h u r) : toD h 7 y = toD h 7 u := by
  cases r with
  | hear z a c x =>
    obtain ⟨p, v, rfl, e1, e2⟩ := k1
    obtain ⟨p', v', rfl, e3, e4⟩ := k2
    have ev : toD h 6 (.ref v) = toD h 6 (.ref v') := toD_same e2 e4
    unfold toD
    dsimp only
    rw [e1, e3]
    dsimp only
    have : allD (toD h 6) [.str "hear", prs z a c, .ref v] = allD (toD h 6) [.str "hear", prs z a c, .ref v'] := by
      unfold allD allD allD
      rw [ev]
    rw [this]
  | _ =>
    obtain ⟨p, rfl, e1⟩ := k1
    obtain ⟨p', rfl, e2⟩ := k2
    exact toD_same e1 e2
end VL

set_option Elab.async false
set_option linter.all false
set_option maxRecDepth 100000
set_option maxHeartbeats 4000000
/-! houses -/
namespace VL
open PySem PySem.Spec PyProof.Rows L2
/-! ### list(d) of a dict -/
def gListD : LCR := fun xs h L => match xs with
  | [.ref a] => (match h a with
    | some (.dic kvs) => cNew (.lst (kvs.map fun kv => keyL kv.1)) L h
    | _ => False)
  | _ => False
theorem keysL_ok {K : PySem.W.Frag} {H H1 : Hp} : ∀ {kvs : List (Key × LV)} {ws : List (Key × V)}, RKs K H id kvs ws → RVs K H1 (kvs.map fun kv => keyL kv.1) (ws.map fun kv => kV kv.1)
  | _, _, .nil => .nil
  | _, _, .cons _ t => .cons (keyL_ok _) (keysL_ok t)
theorem src_listD {K : PySem.W.Frag} : SRC K rListD gListD := fun H h xs vs L Q rh rx g o => by
  unfold gListD at g
  split at g
  · rename_i a
    cases rx with
    | cons r t =>
      cases t
      cases r
      split at g
      · rename_i kvs ea
        obtain ⟨ws, e2, hr⟩ := rh a _ ea
        exact ⟨a, ws, rfl, e2, fun p hp => o _ _ (.ref p) _ (.new hp) (rh.lay hp (.mkL upd_same (keysL_ok hr))) (.ref p) (g p (rh.fresh hp))⟩
      · exact g.elim
  · exact g.elim
theorem s_listD {a : Addr} {kvs : List (Key × LV)} {h : LH} {L : LK} (e : h a = some (.dic kvs)) (q : cNew (.lst (kvs.map fun kv => keyL kv.1)) L h) : gListD [.ref a] h L := by
  unfold gListD
  dsimp only
  rw [e]
  exact q
/-! ### names and what stands at them -/
section
variable {α β : Type}
def fnd : List (Str × α) → Str → Option (Nat × α)
  | [], _ => none
  | p :: r, z => if p.1 = z then some (0, p.2) else (fnd r z).map fun q => (q.1 + 1, q.2)
theorem fnd_get : ∀ {xs : List (Str × α)} {z : Str} {i : Nat} {x : α}, fnd xs z = some (i, x) → xs[i]? = some (z, x)
  | [], _, _, _, e => by cases e
  | p :: r, z, i, x, e => by
    unfold fnd at e
    split at e
    · rename_i h
      cases e
      subst h
      rfl
    · cases er : fnd r z with
      | none => rw [er] at e; cases e
      | some q =>
        rw [er] at e
        cases e
        exact fnd_get (xs := r) er
theorem fnd_none : ∀ {xs : List (Str × α)} {z : Str}, fnd xs z = none ↔ ∀ p ∈ xs, p.1 ≠ z
  | [], z => ⟨fun _ p hp => (by cases hp), fun _ => rfl⟩
  | p :: r, z => by
    unfold fnd
    split
    · rename_i h
      exact ⟨fun e => (by cases e), fun k => absurd h (k p List.mem_cons_self)⟩
    · rename_i h
      rw [Option.map_eq_none_iff, fnd_none (xs := r)]
      exact ⟨fun k q hq => by
        rcases List.mem_cons.mp hq with rfl | hq
        · exact h
        · exact k q hq, fun k q hq => k q (List.mem_cons_of_mem _ hq)⟩
theorem fnd_map {g : α → β} : ∀ {xs : List (Str × α)} {z : Str}, fnd (xs.map fun p => (p.1, g p.2)) z = (fnd xs z).map fun q => (q.1, g q.2)
  | [], _ => rfl
  | p :: r, z => by
    rw [List.map_cons]
    unfold fnd
    dsimp only
    split
    · rfl
    · rw [fnd_map (xs := r)]
      cases fnd r z <;> rfl
theorem dget_fnd {f : α → LV} : ∀ {xs : List (Str × α)} {z : Str}, dget (dmap f xs) (.inr z) = (fnd xs z).map fun q => f q.2
  | [], _ => rfl
  | p :: r, z => by
    have ih := dget_fnd (f := f) (xs := r) (z := z)
    unfold dget dmap at ih ⊢
    rw [List.map_cons, List.find?_cons]
    dsimp only
    unfold fnd
    by_cases h : p.1 = z
    · rw [if_pos h, decide_eq_true (by rw [h])]
      rfl
    · rw [if_neg h, decide_eq_false (fun c => h (Sum.inr.inj c)), ih]
      cases fnd r z <;> rfl
theorem dput_fnd {f : α → LV} {xs : List (Str × α)} {z : Str} {v : LV} (h : fnd xs z = none) : dput (dmap f xs) (.inr z) v = dmap f xs ++ [(.inr z, v)] := by
  unfold dput
  rw [dmap_any, if_neg]
  intro q
  obtain ⟨d, hd, e⟩ := List.any_eq_true.mp q
  exact fnd_none.mp h d hd (of_decide_eq_true e)
theorem dmap_snoc {f : α → LV} {xs : List (Str × α)} {z : Str} {x : α} : dmap f xs ++ [(.inr z, f x)] = dmap f (xs ++ [(z, x)]) := by
  unfold dmap
  rw [List.map_append]
  rfl
theorem mapset_eq {γ : Type} {f : α → γ} {xs : List α} {i : Nat} {x y : α} (hx : xs[i]? = some x) (e : f y = f x) : (xs.set i y).map f = xs.map f := by
  apply List.ext_getElem?
  intro j
  rw [List.getElem?_map, List.getElem?_map]
  by_cases h : i = j
  · subst h
    have hl : i < xs.length := (List.getElem?_eq_some_iff.mp hx).1
    rw [List.getElem?_set_self hl, hx]
    show some (f y) = some (f x)
    rw [e]
  · rw [List.getElem?_set_ne h]
theorem dmap_set {f : α → LV} {xs : List (Str × α)} {i : Nat} {z : Str} {x y : α} (hx : xs[i]? = some (z, x)) (e : f y = f x) : dmap f (xs.set i (z, y)) = dmap f xs := mapset_eq hx (by dsimp only; rw [e])
theorem fnd_nodup : ∀ {xs : List (Str × α)} {z : Str} {i : Nat} {x : α}, (xs.map (·.1)).Nodup → xs[i]? = some (z, x) → fnd xs z = some (i, x)
  | [], _, _, _, _, e => by cases e
  | p :: r, z, i, x, hn, e => by
    rw [List.map_cons, List.nodup_cons] at hn
    unfold fnd
    cases i with
    | zero =>
      cases e
      rw [if_pos rfl]
    | succ i =>
      have e2 : r[i]? = some (z, x) := e
      rw [if_neg, fnd_nodup hn.2 e2]
      · rfl
      · intro h
        exact hn.1 (List.mem_map.mpr ⟨_, List.mem_of_getElem? e2, h.symm⟩)
theorem fnd_some_of_mem {xs : List (Str × α)} {z : Str} (h : z ∈ xs.map (·.1)) : ∃ q, fnd xs z = some q := by
  cases e : fnd xs z with
  | some q => exact ⟨q, rfl⟩
  | none =>
    obtain ⟨p, hp, e2⟩ := List.mem_map.mp h
    exact absurd e2 (fnd_none.mp e p hp)
end
section
variable {α : Type} {f : α → LV} {xs : List (Str × α)} {z : Str} {i : Nat} {x : α} {a : Addr} {h : LH} {L : LK} {F : Bool → Bool}
theorem i_inF (ea : h a = some (.dic (dmap f xs))) (q : L (.bl (F (fnd xs z).isSome)) h) : gIn F (.str z) (.ref a) h L := by
  unfold gIn
  dsimp only
  rw [ea]
  dsimp only
  show L (.bl (F (dget (dmap f xs) (.inr z)).isSome)) h
  rw [dget_fnd, Option.isSome_map]
  exact q
theorem i_inS (ea : h a = some (.dic (dmap f xs))) (e : fnd xs z = some (i, x)) (q : L (.bl true) h) : gIn id (.str z) (.ref a) h L := i_inF ea (by rw [e]; exact q)
theorem i_inN (ea : h a = some (.dic (dmap f xs))) (e : fnd xs z = none) (q : L (.bl false) h) : gIn id (.str z) (.ref a) h L := i_inF ea (by rw [e]; exact q)
theorem i_notinS (ea : h a = some (.dic (dmap f xs))) (e : fnd xs z = some (i, x)) (q : L (.bl false) h) : gIn (!·) (.str z) (.ref a) h L := i_inF ea (by rw [e]; exact q)
theorem i_notinN (ea : h a = some (.dic (dmap f xs))) (e : fnd xs z = none) (q : L (.bl true) h) : gIn (!·) (.str z) (.ref a) h L := i_inF ea (by rw [e]; exact q)
theorem i_ixF (ea : h a = some (.dic (dmap f xs))) (e : fnd xs z = some (i, x)) (q : L (f x) h) : gIx (.ref a) (.str z) h L := i_ix_dic ea rfl (by rw [dget_fnd, e]; rfl) q
end
/-! ### the state of a house -/
/-- a press -/
structure Pz where
  z : Str
  a : Int
  c : List Int
def Pz.lv (p : Pz) : LV := prs p.z p.a p.c
structure Pz.ok (p : Pz) : Prop where
  z : Nm p.z
  a0 : 0 ≤ p.a
  l : p.c.length = 5
  d : Digs p.c
structure Dh where
  D : Dm
  f : Int
  rows : List LV
  op : List Int
structure Hm where
  tab : List Int
  keys : List (List Int)
  shut : Int
  ds : List (Str × Dh)
  bs : List (Str × Bt)
  kept : List Pz
/-- .. and where it stands -/
structure Dz where
  A : Da
  q : Addr
  d : Dh
structure Bz where
  o : Addr
  c : Addr
  B : Bt
def Dz.hp (p : Str × Dz) : HP := stars [dr p.2.A p.2.d.D p.2.d.f p.2.d.rows, pts p.2.q (.lst (p.2.d.op.map .int))]
def Bz.hp (p : Str × Bz) : HP := bt p.2.o p.2.c p.2.B
theorem Dz.out {p : Str × Dz} {Ps : List HP} {h : LH} (s : stars (Dz.hp p :: Ps) h) : stars (dr p.2.A p.2.d.D p.2.d.f p.2.d.rows :: pts p.2.q (.lst (p.2.d.op.map .int)) :: Ps) h := stars_open s
theorem Dz.in_ {z : Str} {A : Da} {q : Addr} {D : Dm} {f : Int} {rows : List LV} {op : List Int} {Ps : List HP} {h : LH} (s : stars (dr A D f rows :: pts q (.lst (op.map .int)) :: Ps) h) : stars (Dz.hp (z, ⟨A, q, ⟨D, f, rows, op⟩⟩) :: Ps) h := stars_close (Qs := [dr A D f rows, pts q (.lst (op.map .int))]) s
def edz (zs : List (Str × Dz)) : List (Str × Dh) := zs.map fun p => (p.1, p.2.d)
def ebz (bz : List (Str × Bz)) : List (Str × Bt) := bz.map fun p => (p.1, p.2.B)
abbrev dDoor (zs : List (Str × Dz)) : List (Key × LV) := dmap (fun x : Dz => LV.ref x.A.o) zs
abbrev dOpen (zs : List (Str × Dz)) : List (Key × LV) := dmap (fun x : Dz => LV.ref x.q) zs
abbrev dBut (bz : List (Str × Bz)) : List (Key × LV) := dmap (fun x : Bz => LV.ref x.o) bz
structure Ha where
  o : Addr
  k : Addr
  d : Addr
  b : Addr
  p : Addr
  q : Addr
def Hm.fs (M : Hm) (X : Ha) : List (Fd × LV) := [(.table, tupI M.tab), (.house_keys, .ref X.k), (.closed, .int M.shut), (.doors, .ref X.d), (.buttons, .ref X.b), (.kept, .ref X.p), (.opened, .ref X.q)]
def Hm.dd (M : Hm) (X : Ha) : List (Key × LV) := [(.inr "table", tupI M.tab), (.inr "keys", .ref X.k), (.inr "shut", .int M.shut), (.inr "doors", .ref X.d), (.inr "buttons", .ref X.b), (.inr "kept", .ref X.p), (.inr "opened", .ref X.q)]
/-- all but the object, or the dict -/
def hb (X : Ha) (M : Hm) (zs : List (Str × Dz)) (bz : List (Str × Bz)) : List HP := [pts X.k (.lst (M.keys.map tupI)), pts X.d (.dic (dDoor zs)), pts X.b (.dic (dBut bz)), pts X.p (.lst (M.kept.map Pz.lv)), pts X.q (.dic (dOpen zs)), big Dz.hp zs, big Bz.hp bz]
def hs (o : Addr) (M : Hm) : HP := fun h => ∃ (X : Ha) (zs : List (Str × Dz)) (bz : List (Str × Bz)), (X.o = o ∧ edz zs = M.ds ∧ ebz bz = M.bs) ∧ stars (pts X.o (.ins .House (M.fs X)) :: hb X M zs bz) h
def ow (o : Addr) (M : Hm) : HP := fun h => ∃ (X : Ha) (zs : List (Str × Dz)) (bz : List (Str × Bz)), (X.o = o ∧ edz zs = M.ds ∧ ebz bz = M.bs) ∧ stars (pts X.o (.dic (M.dd X)) :: hb X M zs bz) h
section
variable {o : Addr} {M : Hm} {Ps Qs Cs : List HP} {h : LH} {X : Ha} {zs : List (Str × Dz)} {bz : List (Str × Bz)}
theorem hs_out (s : stars Ps h) (k : Pk Ps (hs o M) Qs) : ∃ (X : Ha) (zs : List (Str × Dz)) (bz : List (Str × Bz)), o = X.o ∧ edz zs = M.ds ∧ ebz bz = M.bs ∧ stars (pts X.o (.ins .House (M.fs X)) :: pts X.k (.lst (M.keys.map tupI)) :: pts X.d (.dic (dDoor zs)) :: pts X.b (.dic (dBut bz)) :: pts X.p (.lst (M.kept.map Pz.lv)) :: pts X.q (.dic (dOpen zs)) :: big Dz.hp zs :: big Bz.hp bz :: Qs) h := by
  obtain ⟨h1, h2, d, e, ⟨X, zs, bz, ⟨rfl, e1, e2⟩, p⟩, q⟩ := k.out s
  exact ⟨X, zs, bz, rfl, e1, e2, stars_app (Qs := pts X.o (.ins .House (M.fs X)) :: hb X M zs bz) ⟨h1, h2, d, e, p, q⟩⟩
theorem ow_out (s : stars Ps h) (k : Pk Ps (ow o M) Qs) : ∃ (X : Ha) (zs : List (Str × Dz)) (bz : List (Str × Bz)), o = X.o ∧ edz zs = M.ds ∧ ebz bz = M.bs ∧ stars (pts X.o (.dic (M.dd X)) :: pts X.k (.lst (M.keys.map tupI)) :: pts X.d (.dic (dDoor zs)) :: pts X.b (.dic (dBut bz)) :: pts X.p (.lst (M.kept.map Pz.lv)) :: pts X.q (.dic (dOpen zs)) :: big Dz.hp zs :: big Bz.hp bz :: Qs) h := by
  obtain ⟨h1, h2, d, e, ⟨X, zs, bz, ⟨rfl, e1, e2⟩, p⟩, q⟩ := k.out s
  exact ⟨X, zs, bz, rfl, e1, e2, stars_app (Qs := pts X.o (.dic (M.dd X)) :: hb X M zs bz) ⟨h1, h2, d, e, p, q⟩⟩
theorem hs_in (e1 : edz zs = M.ds) (e2 : ebz bz = M.bs) (s : stars (pts X.o (.ins .House (M.fs X)) :: pts X.k (.lst (M.keys.map tupI)) :: pts X.d (.dic (dDoor zs)) :: pts X.b (.dic (dBut bz)) :: pts X.p (.lst (M.kept.map Pz.lv)) :: pts X.q (.dic (dOpen zs)) :: big Dz.hp zs :: big Bz.hp bz :: Ps) h) : stars (hs X.o M :: Ps) h :=
  stars_imp (fun _ q => ⟨X, zs, bz, ⟨rfl, e1, e2⟩, q⟩) (stars_app' (Qs := pts X.o (.ins .House (M.fs X)) :: hb X M zs bz) s)
theorem ow_in (e1 : edz zs = M.ds) (e2 : ebz bz = M.bs) (s : stars (pts X.o (.dic (M.dd X)) :: pts X.k (.lst (M.keys.map tupI)) :: pts X.d (.dic (dDoor zs)) :: pts X.b (.dic (dBut bz)) :: pts X.p (.lst (M.kept.map Pz.lv)) :: pts X.q (.dic (dOpen zs)) :: big Dz.hp zs :: big Bz.hp bz :: Ps) h) : stars (ow X.o M :: Ps) h :=
  stars_imp (fun _ q => ⟨X, zs, bz, ⟨rfl, e1, e2⟩, q⟩) (stars_app' (Qs := pts X.o (.dic (M.dd X)) :: hb X M zs bz) s)
end
/-- what stands at a name -/
theorem edz_fnd {zs : List (Str × Dz)} {z : Str} {i : Nat} {d : Dh} (e : fnd (edz zs) z = some (i, d)) : ∃ x : Dz, fnd zs z = some (i, x) ∧ x.d = d ∧ zs[i]? = some (z, x) := by
  unfold edz at e
  rw [fnd_map] at e
  cases ef : fnd zs z with
  | none => rw [ef] at e; cases e
  | some q =>
    rw [ef] at e
    obtain ⟨j, x⟩ := q
    cases e
    exact ⟨x, rfl, rfl, fnd_get ef⟩
theorem edz_no {zs : List (Str × Dz)} {z : Str} (e : fnd (edz zs) z = none) : fnd zs z = none := by
  unfold edz at e
  rw [fnd_map, Option.map_eq_none_iff] at e
  exact e
theorem ebz_fnd {zs : List (Str × Bz)} {z : Str} {i : Nat} {d : Bt} (e : fnd (ebz zs) z = some (i, d)) : ∃ x : Bz, fnd zs z = some (i, x) ∧ x.B = d ∧ zs[i]? = some (z, x) := by
  unfold ebz at e
  rw [fnd_map] at e
  cases ef : fnd zs z with
  | none => rw [ef] at e; cases e
  | some q =>
    rw [ef] at e
    obtain ⟨j, x⟩ := q
    cases e
    exact ⟨x, rfl, rfl, fnd_get ef⟩
theorem ebz_no {zs : List (Str × Bz)} {z : Str} (e : fnd (ebz zs) z = none) : fnd zs z = none := by
  unfold ebz at e
  rw [fnd_map, Option.map_eq_none_iff] at e
  exact e
theorem edz_set {zs : List (Str × Dz)} {i : Nat} {z : Str} {x : Dz} {d : Dh} : edz (zs.set i (z, { x with d := d })) = (edz zs).set i (z, d) := by
  unfold edz
  rw [List.map_set]
theorem ebz_set {bz : List (Str × Bz)} {i : Nat} {z : Str} {x : Bz} {B : Bt} : ebz (bz.set i (z, { x with B := B })) = (ebz bz).set i (z, B) := by
  unfold ebz
  rw [List.map_set]
theorem edz_snoc {zs : List (Str × Dz)} {z : Str} {x : Dz} : edz (zs ++ [(z, x)]) = edz zs ++ [(z, x.d)] := by
  unfold edz
  rw [List.map_append]
  rfl
theorem ebz_snoc {zs : List (Str × Bz)} {z : Str} {x : Bz} : ebz (zs ++ [(z, x)]) = ebz zs ++ [(z, x.B)] := by
  unfold ebz
  rw [List.map_append]
  rfl
theorem dDoor_set {zs : List (Str × Dz)} {i : Nat} {z : Str} {x : Dz} {d : Dh} (h : zs[i]? = some (z, x)) : dDoor (zs.set i (z, { x with d := d })) = dDoor zs := dmap_set h rfl
theorem dOpen_set {zs : List (Str × Dz)} {i : Nat} {z : Str} {x : Dz} {d : Dh} (h : zs[i]? = some (z, x)) : dOpen (zs.set i (z, { x with d := d })) = dOpen zs := dmap_set h rfl
theorem dBut_set {bz : List (Str × Bz)} {i : Nat} {z : Str} {x : Bz} {B : Bt} (h : bz[i]? = some (z, x)) : dBut (bz.set i (z, { x with B := B })) = dBut bz := dmap_set h rfl
/-! ### deeds, and what they come to -/
inductive Ot where
  | told (v : LV)
  | ref (w : Str) (p : Option Int)
def Ot.lv : Ot → LV
  | .told v => .tup [.str "told", v]
  | .ref w p => .tup [.str "refused", .str w, optI p]
inductive Dd where
  | addD (z : Str) (n f m : Int)
  | addB (z : Str) (s : Int)
  | teach (d b : Str)
  | forget (d b : Str)
  | press (b : Str) (deed : Int) (zs : List Str) (x : LV)
  | play (k : Int) (d : Str)
  | lose (b : Str)
  | tear (b : Str)
  | turnH (k : List Int)
  | turnB (b : Str)
  | close (a : Int)
def Dd.lv : Dd → LV
  | .addD z n f m => .tup [.str "add_door", .str z, .int n, .int f, .int m]
  | .addB z s => .tup [.str "add_button", .str z, .int s]
  | .teach d b => .tup [.str "teach", .str d, .str b]
  | .forget d b => .tup [.str "forget_at", .str d, .str b]
  | .press b k _ x => .tup [.str "press_button", .str b, .int k, x]
  | .play k d => .tup [.str "play_kept", .int k, .str d]
  | .lose b => .tup [.str "lose_cell", .str b]
  | .tear b => .tup [.str "tear_cell", .str b]
  | .turnH k => .tup [.str "turn_house", tupI k]
  | .turnB b => .tup [.str "turn_button", .str b]
  | .close a => .tup [.str "close_ages", .int a]
def newD (M : Hm) (n f m : Int) : Dh := if M.shut > 0 then ⟨⟨M.tab, M.keys, n, f, m, M.shut, []⟩, M.keys.length, [.tup [.str "close", .int M.shut]], []⟩ else ⟨⟨M.tab, M.keys, n, f, m, 0, []⟩, M.keys.length, [], []⟩
def newB (M : Hm) (z : Str) (s : Int) : Bt := ⟨z, M.tab, M.keys.getD (M.keys.length - 1) [], M.keys.length - 1, s, 0, 0, some 0, none⟩
def Dh.hear (d : Dh) (p : Pz) (k : Int) : LV × Dh := ((hearF d.D p.z p.a p.c).1, ⟨(hearF d.D p.z p.a p.c).2, d.f, d.rows ++ [.tup [.str "hear", prs p.z p.a p.c, (hearF d.D p.z p.a p.c).1]], if isOpen (hearF d.D p.z p.a p.c).1 = true then d.op ++ [k] else d.op⟩)
def Hm.lis (M : Hm) (z : Str) (p : Pz) (k : Int) : LV × Hm := match fnd M.ds z with
  | some (i, d) => ((d.hear p k).1, { M with ds := M.ds.set i (z, (d.hear p k).2) })
  | none => (.non, M)
def Hm.lisF (p : Pz) (k : Int) (s : List LV × Hm) (z : Str) : List LV × Hm := (s.1 ++ [(s.2.lis z p k).1], (s.2.lis z p k).2)
def Bt.pz (B : Bt) (deed : Int) : Pz := ⟨B.z, B.age, codeF B.tab B.key B.z B.n deed⟩
def Dh.learn (d : Dh) (p1 p2 : Pz) (count : Int) : Dh := ⟨{ d.D with es := eput d.D.es p1.z ⟨p1.a, count, none⟩ }, d.f, d.rows ++ [.tup [.str "learn", p1.lv, p2.lv]], d.op⟩
/-- why a door isn't taught a button -/
def teachR (D : Dm) (B : Bt) : Option Ot := match eget D.es B.z with
  | some _ => some (.ref "Known" none)
  | none => if D.most ≤ D.es.length then some (.ref "Full" none) else if B.n > 4094 then some (.ref "Worn" none) else if B.age < D.closed then some (.ref "BadPress" (some 0)) else none
def pressR (M : Hm) (b : Str) (zs : List Str) : Option Ot := match fnd M.bs b with
  | none => some (.ref "Unknown" none)
  | some (_, B) => if (zs.any fun z => (fnd M.ds z).isNone) = true then some (.ref "Unknown" none) else if B.n = 4096 then some (.ref "Worn" none) else none
def Hm.turn (M : Hm) (k : List Int) : Hm := { M with keys := M.keys ++ [k], ds := M.ds.map fun p => (p.1, { p.2 with D := { p.2.D with keys := p.2.D.keys ++ [k] }, rows := p.2.rows ++ [.tup [.str "turn", tupI k]] }) }
def Hm.close (M : Hm) (a : Int) : Hm := { M with shut := if a > M.shut then a else M.shut, ds := M.ds.map fun p => (p.1, { p.2 with D := { p.2.D with closed := if a > p.2.D.closed then a else p.2.D.closed }, rows := p.2.rows ++ [.tup [.str "close", .int a]] }) }
def dueH (M : Hm) : Dd → Ot × Hm
  | .addD z n f m => (match fnd M.ds z with
    | some _ => (.ref "Known" none, M)
    | none => (.told .non, { M with ds := M.ds ++ [(z, newD M n f m)] }))
  | .addB z s => (match fnd M.bs z with
    | some _ => (.ref "Known" none, M)
    | none => (.told .non, { M with bs := M.bs ++ [(z, newB M z s)] }))
  | .teach dz bz => (match fnd M.ds dz, fnd M.bs bz with
    | some (i, d), some (j, B) => (match teachR d.D B with
      | some o => (o, M)
      | none => (.told .non, { M with ds := M.ds.set i (dz, d.learn (B.pz 0) (B.press.pz 0) (B.n + 1)), bs := M.bs.set j (bz, B.press.press), kept := M.kept ++ [B.pz 0, B.press.pz 0] }))
    | _, _ => (.ref "Unknown" none, M))
  | .forget dz bz => (match fnd M.ds dz, fnd M.bs bz with
    | some (i, d), some _ => (match eget d.D.es bz with
      | some _ => (.told .non, { M with ds := M.ds.set i (dz, { d with D := { d.D with es := edrop d.D.es bz }, rows := d.rows ++ [.tup [.str "forget", .str bz]] }) })
      | none => (.ref "Unknown" none, M))
    | _, _ => (.ref "Unknown" none, M))
  | .press b deed zs _ => (match pressR M b zs with
    | some o => (o, M)
    | none => (match fnd M.bs b with
      | some (j, B) => ((fun r => (.told (.tup [.int M.kept.length, .tup r.1]), r.2)) (zs.foldl (Hm.lisF (B.pz deed) M.kept.length) ([], { M with bs := M.bs.set j (b, B.press), kept := M.kept ++ [B.pz deed] })))
      | none => (.ref "Unknown" none, M)))
  | .play k dz => (match fnd M.ds dz with
    | none => (.ref "Unknown" none, M)
    | some _ => if 0 ≤ k ∧ k < M.kept.length then (match M.kept[k.toNat]? with
      | some p => (.told (M.lis dz p k).1, (M.lis dz p k).2)
      | none => (.ref "Unknown" none, M)) else (.ref "BadPress" (some k), M))
  | .lose b => (match fnd M.bs b with
    | none => (.ref "Unknown" none, M)
    | some (j, B) => (.told .non, { M with bs := M.bs.set j (b, B.out) }))
  | .tear b => (match fnd M.bs b with
    | none => (.ref "Unknown" none, M)
    | some (j, B) => (.told .non, { M with bs := M.bs.set j (b, B.torn) }))
  | .turnH k => if M.keys.length < 8 then (.told .non, M.turn k) else (.ref "TooMany" none, M)
  | .turnB b => (match fnd M.bs b with
    | none => (.ref "Unknown" none, M)
    | some (j, B) => if B.age + 1 < M.keys.length then (.told .non, { M with bs := M.bs.set j (b, { B with key := M.keys.getD (B.age + 1).toNat [], age := B.age + 1 }) }) else (.ref "Worn" none, M))
  | .close a => if 0 ≤ a ∧ a < M.keys.length then (.told .non, M.close a) else (.ref "Unknown" none, M)
end VL

set_option Elab.async false
set_option linter.all false
set_option maxRecDepth 100000
set_option maxHeartbeats 4000000
/-! what a house keeps -/
namespace VL
open PySem PySem.Spec PyProof.Rows L2
theorem hm_shut {M : Hm} {X : Ha} {v : Int} : dput (M.dd X) (.inr "shut") (.int v) = ({ M with shut := v } : Hm).dd X := by
  unfold dput Hm.dd
  simp [List.any, List.map]
  exact ⟨by decide, by decide, by decide, by decide, by decide, by decide⟩
theorem hearF_len {D : Dm} {z : Str} {a : Int} {c : List Int} : (hearF D z a c).2.es.length = D.es.length := by
  unfold hearF
  split
  · rfl
  · rename_i e0 eg
    have := congrArg List.length (eput_names (e := (ansF D e0 z a c).2) eg)
    rw [List.length_map, List.length_map] at this
    exact this
structure Dh.ok (M : Hm) (r : Nat) (d : Dh) : Prop where
  L : Lk d.D
  t : d.D.tab = M.tab
  k : d.D.keys = M.keys
  c : d.D.closed = M.shut
  m : d.D.es.length ≤ d.D.most
  rl : d.rows.length ≤ r
  ol : d.op.length ≤ r
  pl : ∀ x ∈ d.rows, Pl 4 x
structure BzOk (M : Hm) (p : Str × Bt) : Prop where
  b : p.2.ok
  z : Nm p.1
  e : p.2.z = p.1
  t : p.2.tab = M.tab
  a0 : 0 ≤ p.2.age
  a1 : p.2.age < M.keys.length
  k : p.2.key = M.keys.getD p.2.age.toNat []
structure Hm.ok (M : Hm) (n r : Nat) : Prop where
  tab : M.tab.Perm (rgL 16)
  k1 : 1 ≤ M.keys.length
  k8 : M.keys.length ≤ 8
  kd : ∀ k ∈ M.keys, Digs k ∧ 1 ≤ k.length ∧ k.length ≤ 8
  s0 : 0 ≤ M.shut
  s1 : M.shut < M.keys.length
  dl : M.ds.length ≤ n
  dn : (M.ds.map (·.1)).Nodup
  dk : ∀ p ∈ M.ds, p.2.ok M r
  bl : M.bs.length ≤ n
  bn : (M.bs.map (·.1)).Nodup
  bk : ∀ p ∈ M.bs, BzOk M p
  kl : M.kept.length ≤ r
  kk : ∀ p ∈ M.kept, p.ok
  dz : ∀ p ∈ M.ds, Nm p.1
def Dd.fit : Dd → Prop
  | .addD z n f m => (1 ≤ n ∧ n ≤ 64 ∧ n ≤ f ∧ f ≤ 1024 ∧ 1 ≤ m ∧ m ≤ 12) ∧ Nm z
  | .addB z s => Nm z ∧ 1 ≤ s ∧ s ≤ 64
  | .press _ deed zs _ => 0 ≤ deed ∧ deed < 16 ∧ zs.length ≤ 4
  | .turnH k => Digs k ∧ 1 ≤ k.length ∧ k.length ≤ 8
  | _ => True
theorem Dh.ok.mono {M : Hm} {r r2 : Nat} {d : Dh} (k : d.ok M r) (h : r ≤ r2) : d.ok M r2 := ⟨k.L, k.t, k.k, k.c, k.m, Nat.le_trans k.rl h, Nat.le_trans k.ol h, k.pl⟩
theorem Hm.ok.mono {M : Hm} {n n2 r r2 : Nat} (k : M.ok n r) (hn : n ≤ n2) (h : r ≤ r2) : M.ok n2 r2 := ⟨k.tab, k.k1, k.k8, k.kd, k.s0, k.s1, Nat.le_trans k.dl hn, k.dn, fun p hp => (k.dk p hp).mono h, Nat.le_trans k.bl hn, k.bn, k.bk, Nat.le_trans k.kl h, k.kk, k.dz⟩
theorem Hm.ok.T {M : Hm} {n r : Nat} (k : M.ok n r) : Tab M.tab := .of_perm k.tab
theorem names_set {α : Type} {xs : List (Str × α)} {i : Nat} {z : Str} {x y : α} (h : xs[i]? = some (z, x)) : (xs.set i (z, y)).map (·.1) = xs.map (·.1) := mapset_eq (f := fun p : Str × α => p.1) h rfl
theorem hset_all {α : Type} {xs : List α} {i : Nat} {y : α} {P : α → Prop} (h : ∀ x ∈ xs, P x) (hy : P y) : ∀ x ∈ xs.set i y, P x := fun x hx => by
  rcases List.mem_or_eq_of_mem_set hx with e | e
  · exact h x e
  · rw [e]; exact hy
theorem Hm.ok.setD {M : Hm} {n r r2 : Nat} (k : M.ok n r) (hr : r ≤ r2) {z : Str} {i : Nat} {d d2 : Dh} (h : fnd M.ds z = some (i, d)) (hd : d2.ok M r2) : ({ M with ds := M.ds.set i (z, d2) } : Hm).ok n r2 := by
  have hg := fnd_get h
  refine ⟨k.tab, k.k1, k.k8, k.kd, k.s0, k.s1, by show (M.ds.set i (z, d2)).length ≤ n; rw [List.length_set]; exact k.dl, by show ((M.ds.set i (z, d2)).map (·.1)).Nodup; rw [names_set hg]; exact k.dn, ?_, k.bl, k.bn, fun p hp => ⟨(k.bk p hp).b, (k.bk p hp).z, (k.bk p hp).e, (k.bk p hp).t, (k.bk p hp).a0, (k.bk p hp).a1, (k.bk p hp).k⟩, Nat.le_trans k.kl hr, k.kk, hset_all k.dz (show Nm z from k.dz (z, d) (List.mem_of_getElem? hg))⟩
  refine hset_all (fun p hp => ?_) ?_
  · have q := (k.dk p hp).mono hr
    exact ⟨q.L, q.t, q.k, q.c, q.m, q.rl, q.ol, q.pl⟩
  · exact ⟨hd.L, hd.t, hd.k, hd.c, hd.m, hd.rl, hd.ol, hd.pl⟩
theorem Hm.ok.setB {M : Hm} {n r : Nat} (k : M.ok n r) {z : Str} {i : Nat} {B B2 : Bt} (h : fnd M.bs z = some (i, B)) (hd : BzOk M (z, B2)) : ({ M with bs := M.bs.set i (z, B2) } : Hm).ok n r := by
  have hg := fnd_get h
  exact ⟨k.tab, k.k1, k.k8, k.kd, k.s0, k.s1, k.dl, k.dn, fun p hp => ⟨(k.dk p hp).L, (k.dk p hp).t, (k.dk p hp).k, (k.dk p hp).c, (k.dk p hp).m, (k.dk p hp).rl, (k.dk p hp).ol, (k.dk p hp).pl⟩, by show (M.bs.set i (z, B2)).length ≤ n; rw [List.length_set]; exact k.bl, by show ((M.bs.set i (z, B2)).map (·.1)).Nodup; rw [names_set hg]; exact k.bn, hset_all (fun p hp => ⟨(k.bk p hp).b, (k.bk p hp).z, (k.bk p hp).e, (k.bk p hp).t, (k.bk p hp).a0, (k.bk p hp).a1, (k.bk p hp).k⟩) ⟨hd.b, hd.z, hd.e, hd.t, hd.a0, hd.a1, hd.k⟩, k.kl, k.kk, k.dz⟩
theorem Hm.ok.addK {M : Hm} {n r : Nat} (k : M.ok n r) {ps : List Pz} (h : ∀ p ∈ ps, p.ok) : ({ M with kept := M.kept ++ ps } : Hm).ok n (r + ps.length) := by
  exact ⟨k.tab, k.k1, k.k8, k.kd, k.s0, k.s1, k.dl, k.dn, fun p hp => by
    have q := (k.dk p hp).mono (Nat.le_add_right r ps.length)
    exact ⟨q.L, q.t, q.k, q.c, q.m, q.rl, q.ol, q.pl⟩, k.bl, k.bn, fun p hp => ⟨(k.bk p hp).b, (k.bk p hp).z, (k.bk p hp).e, (k.bk p hp).t, (k.bk p hp).a0, (k.bk p hp).a1, (k.bk p hp).k⟩, by show (M.kept ++ ps).length ≤ _; rw [List.length_append]; have := k.kl; omega, fun p hp => by
      rcases List.mem_append.mp hp with hp | hp
      · exact k.kk p hp
      · exact h p hp, k.dz⟩
theorem Dh.ok.hear {M : Hm} {r : Nat} {d : Dh} (k : d.ok M r) {p : Pz} (hp : p.ok) {j : Int} : (d.hear p j).2.ok M (r + 1) := by
  have kp := hearF_keep (D := d.D) (z := p.z) (age := p.a) (code := p.c)
  refine ⟨k.L.hear hp.l hp.d, kp.1.trans k.t, kp.2.1.trans k.k, kp.2.2.2.2.2.trans k.c, ?_, ?_, ?_, ?_⟩
  · show ((hearF d.D p.z p.a p.c).2.es.length : Int) ≤ (hearF d.D p.z p.a p.c).2.most
    rw [hearF_len, kp.2.2.2.2.1]
    exact k.m
  · show (d.rows ++ _).length ≤ r + 1
    rw [List.length_append]
    have := k.rl
    simp only [List.length_cons, List.length_nil]
    omega
  · show (if _ then d.op ++ [j] else d.op).length ≤ r + 1
    have := k.ol
    split
    · rw [List.length_append]
      simp only [List.length_cons, List.length_nil]
      omega
    · omega
  · intro x hx
    rcases List.mem_append.mp hx with hx | hx
    · exact k.pl x hx
    · rw [List.mem_singleton.mp hx]
      exact .three .str (.prs (by have := hp.l; omega)) .ansH
theorem Hm.ok.lis {M : Hm} {n r : Nat} (k : M.ok n r) {z : Str} {p : Pz} (hp : p.ok) {j : Int} : (M.lis z p j).2.ok n (r + 1) := by
  unfold Hm.lis
  split
  · rename_i i d h
    exact k.setD (Nat.le_succ r) h ((k.dk _ (List.mem_of_getElem? (fnd_get h))).hear hp)
  · exact k.mono (Nat.le_refl n) (Nat.le_succ r)
theorem lis_same {M : Hm} {z : Str} {p : Pz} {j : Int} : (M.lis z p j).2.tab = M.tab ∧ (M.lis z p j).2.keys = M.keys ∧ (M.lis z p j).2.shut = M.shut ∧ (M.lis z p j).2.bs = M.bs ∧ (M.lis z p j).2.kept = M.kept ∧ (M.lis z p j).2.ds.map (·.1) = M.ds.map (·.1) := by
  unfold Hm.lis
  split
  · rename_i i d h
    exact ⟨rfl, rfl, rfl, rfl, rfl, names_set (fnd_get h)⟩
  · exact ⟨rfl, rfl, rfl, rfl, rfl, rfl⟩
theorem lisF_ok {p : Pz} (hp : p.ok) {j : Int} {n : Nat} : ∀ (zs : List Str) (s : List LV × Hm) (r : Nat), s.2.ok n r → (zs.foldl (Hm.lisF p j) s).2.ok n (r + zs.length) ∧ (zs.foldl (Hm.lisF p j) s).1.length = s.1.length + zs.length
  | [], s, r, k => ⟨k, rfl⟩
  | z :: zs, s, r, k => by
    have h := lisF_ok hp (j := j) zs (Hm.lisF p j s z) (r + 1) (k.lis hp)
    rw [List.foldl_cons, List.length_cons]
    refine ⟨h.1.mono (Nat.le_refl n) (by omega), ?_⟩
    rw [h.2]
    show (s.1 ++ [_]).length + zs.length = _
    rw [List.length_append]
    simp only [List.length_cons, List.length_nil]
    omega
theorem lisF_same {p : Pz} {j : Int} : ∀ (zs : List Str) (s : List LV × Hm), (zs.foldl (Hm.lisF p j) s).2.tab = s.2.tab ∧ (zs.foldl (Hm.lisF p j) s).2.keys = s.2.keys ∧ (zs.foldl (Hm.lisF p j) s).2.shut = s.2.shut ∧ (zs.foldl (Hm.lisF p j) s).2.bs = s.2.bs ∧ (zs.foldl (Hm.lisF p j) s).2.kept = s.2.kept ∧ (zs.foldl (Hm.lisF p j) s).2.ds.map (·.1) = s.2.ds.map (·.1)
  | [], s => ⟨rfl, rfl, rfl, rfl, rfl, rfl⟩
  | z :: zs, s => by
    have h := lisF_same (p := p) (j := j) zs (Hm.lisF p j s z)
    have g := lis_same (M := s.2) (z := z) (p := p) (j := j)
    rw [List.foldl_cons]
    exact ⟨h.1.trans g.1, h.2.1.trans g.2.1, h.2.2.1.trans g.2.2.1, h.2.2.2.1.trans g.2.2.2.1, h.2.2.2.2.1.trans g.2.2.2.2.1, h.2.2.2.2.2.trans g.2.2.2.2.2⟩
theorem Bt.pz_ok {M : Hm} {p : Str × Bt} (k : BzOk M p) (T : Tab M.tab) {deed : Int} (h0 : 0 ≤ deed) (h1 : deed < 16) (hn : p.2.n < 4096) : (p.2.pz deed).ok :=
  ⟨by show Nm p.2.z; rw [k.e]; exact k.z, k.a0, codeF_length, codeF_digs (by rw [k.t]; exact T) k.b.n0 hn h0 h1⟩
theorem BzOk.press {M : Hm} {z : Str} {B : Bt} (k : BzOk M (z, B)) (hn : B.n < 4096) : BzOk M (z, B.press) := by
  have s := B.press_z
  exact ⟨k.b.press hn, k.z, s.1.trans k.e, s.2.1.trans k.t, by show 0 ≤ B.press.age; rw [s.2.2.2.1]; exact k.a0, by show B.press.age < _; rw [s.2.2.2.1]; exact k.a1, by show B.press.key = M.keys.getD B.press.age.toNat []; rw [s.2.2.2.1, s.2.2.1]; exact k.k⟩
theorem BzOk.tornK {M : Hm} {z : Str} {B : Bt} (k : BzOk M (z, B)) : BzOk M (z, B.torn) := by
  obtain ⟨s1, s2, s3, s4, -⟩ := B.torn_keep
  exact ⟨k.b.torn, k.z, s1.trans k.e, s2.trans k.t, by show 0 ≤ B.torn.age; rw [s4]; exact k.a0, by show B.torn.age < _; rw [s4]; exact k.a1, by show B.torn.key = M.keys.getD B.torn.age.toNat []; rw [s4, s3]; exact k.k⟩
theorem BzOk.outK {M : Hm} {z : Str} {B : Bt} (k : BzOk M (z, B)) : BzOk M (z, B.out) := ⟨k.b.out, k.z, k.e, k.t, k.a0, k.a1, k.k⟩
/-- a button that is taught -/
theorem teach_learn {M : Hm} {r : Nat} {d : Dh} {p : Str × Bt} (kd : d.ok M r) (kb : BzOk M p) (h : teachR d.D p.2 = none) : learnR d.D p.2.z p.2.age (p.2.pz 0).c p.2.press.z p.2.press.age (p.2.press.pz 0).c = .ok { d.D with es := eput d.D.es p.2.z ⟨p.2.age, p.2.n + 1, none⟩ } ∧ eget d.D.es p.2.z = none ∧ p.2.n ≤ 4094 ∧ d.D.closed ≤ p.2.age ∧ (d.D.es.length : Int) < d.D.most := by
  unfold teachR at h
  split at h
  · cases h
  · rename_i hg
    split at h
    · cases h
    · rename_i hm
      split at h
      · cases h
      · rename_i hn
        split at h
        · cases h
        · rename_i hc
          have s := p.2.press_z
          have n0 := kb.b.n0
          have tk : d.D.takes p.2.age := ⟨by omega, by rw [kd.k]; exact kb.a1⟩
          have key := learn_codes (z := p.2.z) (age := p.2.age) (count := p.2.n) (d1 := 0) (d2 := 0) kd.L.ok tk n0 (by omega) (by omega) (by omega) (by omega) (by omega)
          rw [hg] at key
          dsimp only at key
          rw [if_neg hm] at key
          refine ⟨?_, hg, by omega, by omega, by omega⟩
          rw [s.1, s.2.2.2.1]
          have e1 : (p.2.pz 0).c = codeF d.D.tab (d.D.keys.getD p.2.age.toNat []) p.2.z p.2.n 0 := by
            show codeF p.2.tab p.2.key p.2.z p.2.n 0 = _
            rw [kd.t, kd.k, kb.t, kb.k]
          have e2 : (p.2.press.pz 0).c = codeF d.D.tab (d.D.keys.getD p.2.age.toNat []) p.2.z (p.2.n + 1) 0 := by
            show codeF p.2.press.tab p.2.press.key p.2.press.z p.2.press.n 0 = _
            rw [s.1, s.2.1, s.2.2.1, kd.t, kd.k, kb.t, kb.k]
            rfl
          rw [e1, e2]
          exact key
theorem newD_ok {M : Hm} {n r : Nat} (k : M.ok n r) {a f m : Int} (h : 1 ≤ a ∧ a ≤ 64 ∧ a ≤ f ∧ f ≤ 1024 ∧ 1 ≤ m ∧ m ≤ 12) : (newD M a f m).ok M (r + 1) := by
  have s0 := k.s0
  have s1 := k.s1
  have k1 := k.k1
  have base : ∀ c : Int, 0 ≤ c → c < M.keys.length → Lk ⟨M.tab, M.keys, a, f, m, c, []⟩ := fun c h0 h1 =>
    ⟨⟨k.T, k.k1, k.k8, k.kd, h.1, h.2.1, h.2.2.1, h.2.2.2.1, h.2.2.2.2.1, h.2.2.2.2.2, h0, List.nodup_nil, fun p hp => absurd hp List.not_mem_nil, Nat.zero_le _, fun p hp => absurd hp List.not_mem_nil, fun p hp => absurd hp List.not_mem_nil⟩, fun p hp => absurd hp List.not_mem_nil, fun p hp => absurd hp List.not_mem_nil, h1⟩
  unfold newD
  split
  · exact ⟨base _ s0 s1, rfl, rfl, rfl, by show (0 : Int) ≤ m; omega, by show 1 ≤ r + 1; omega, by show 0 ≤ r + 1; omega, fun x hx => by rw [List.mem_singleton.mp hx]; exact .two .str .int⟩
  · exact ⟨base 0 (Int.le_refl 0) (by omega), rfl, rfl, by show (0 : Int) = M.shut; omega, by show (0 : Int) ≤ m; omega, by show 0 ≤ r + 1; omega, by show 0 ≤ r + 1; omega, fun x hx => absurd hx List.not_mem_nil⟩
theorem nodup_snoc {α : Type} {xs : List (Str × α)} {z : Str} {x : α} (hn : (xs.map (·.1)).Nodup) (h : fnd xs z = none) : ((xs ++ [(z, x)]).map (·.1)).Nodup := by
  rw [List.map_append, List.nodup_append]
  refine ⟨hn, by simp, fun a ha b hb => ?_⟩
  obtain ⟨p, hp, rfl⟩ := List.mem_map.mp ha
  rw [List.mem_singleton.mp hb]
  exact fnd_none.mp h p hp
theorem Hm.ok.turn {M : Hm} {n r : Nat} (k : M.ok n r) {ks : List Int} (h : M.keys.length < 8) (hk : Digs ks ∧ 1 ≤ ks.length ∧ ks.length ≤ 8) : (M.turn ks).ok n (r + 1) := by
  have hl : (M.keys ++ [ks]).length = M.keys.length + 1 := by rw [List.length_append]; rfl
  refine ⟨k.tab, by show 1 ≤ (M.keys ++ [ks]).length; omega, by show (M.keys ++ [ks]).length ≤ 8; omega, fun q hq => ?_, k.s0, by show M.shut < (M.keys ++ [ks]).length; have := k.s1; omega, by show (M.ds.map _).length ≤ n; rw [List.length_map]; exact k.dl, by show ((M.ds.map _).map _).Nodup; rw [List.map_map]; exact k.dn, fun p hp => ?_, k.bl, k.bn, fun p hp => ?_, Nat.le_trans k.kl (Nat.le_succ r), k.kk, fun p hp => by
    obtain ⟨q, hq, rfl⟩ := List.mem_map.mp hp
    exact k.dz q hq⟩
  · rcases List.mem_append.mp hq with hq | hq
    · exact k.kd q hq
    · rw [List.mem_singleton.mp hq]; exact hk
  · obtain ⟨q, hq, rfl⟩ := List.mem_map.mp hp
    have d := k.dk q hq
    refine ⟨d.L.turn (by rw [d.k]; exact h) hk, d.t, by show q.2.D.keys ++ [ks] = M.keys ++ [ks]; rw [d.k], d.c, d.m, ?_, Nat.le_trans d.ol (Nat.le_succ r), fun x hx => ?_⟩
    · show (q.2.rows ++ [_]).length ≤ r + 1
      rw [List.length_append]
      exact Nat.succ_le_succ d.rl
    · rcases List.mem_append.mp hx with hx | hx
      · exact d.pl x hx
      · rw [List.mem_singleton.mp hx]; exact .two .str (.ints (by have := hk.2.2; omega))
  · have b := k.bk p hp
    have a0 := b.a0
    have a1 := b.a1
    refine ⟨b.b, b.z, b.e, b.t, b.a0, by show p.2.age < (M.keys ++ [ks]).length; omega, ?_⟩
    show p.2.key = (M.keys ++ [ks]).getD p.2.age.toNat []
    rw [List.getD_eq_getElem?_getD, List.getElem?_append_left (by omega), ← List.getD_eq_getElem?_getD]
    exact b.k
theorem Hm.ok.close {M : Hm} {n r : Nat} (k : M.ok n r) {a : Int} (h0 : 0 ≤ a) (h1 : a < M.keys.length) : (M.close a).ok n (r + 1) := by
  have s0 := k.s0
  have s1 := k.s1
  refine ⟨k.tab, k.k1, k.k8, k.kd, by show 0 ≤ (if a > M.shut then a else M.shut); split <;> omega, by show (if a > M.shut then a else M.shut) < M.keys.length; split <;> omega, by show (M.ds.map _).length ≤ n; rw [List.length_map]; exact k.dl, by show ((M.ds.map _).map _).Nodup; rw [List.map_map]; exact k.dn, fun p hp => ?_, k.bl, k.bn, fun p hp => ⟨(k.bk p hp).b, (k.bk p hp).z, (k.bk p hp).e, (k.bk p hp).t, (k.bk p hp).a0, (k.bk p hp).a1, (k.bk p hp).k⟩, Nat.le_trans k.kl (Nat.le_succ r), k.kk, fun p hp => by
    obtain ⟨q, hq, rfl⟩ := List.mem_map.mp hp
    exact k.dz q hq⟩
  obtain ⟨q, hq, rfl⟩ := List.mem_map.mp hp
  have d := k.dk q hq
  have c := d.c
  have dk := d.k
  refine ⟨d.L.close (c := if a > q.2.D.closed then a else q.2.D.closed) (by rw [c]; split <;> omega) (by rw [c, dk]; split <;> omega), d.t, d.k, by show (if a > q.2.D.closed then a else q.2.D.closed) = (if a > M.shut then a else M.shut); rw [c], d.m, ?_, Nat.le_trans d.ol (Nat.le_succ r), fun x hx => ?_⟩
  · show (q.2.rows ++ [_]).length ≤ r + 1
    rw [List.length_append]
    exact Nat.succ_le_succ d.rl
  · rcases List.mem_append.mp hx with hx | hx
    · exact d.pl x hx
    · rw [List.mem_singleton.mp hx]; exact .two .str .int
theorem hdue_ok {M : Hm} {n r : Nat} (k : M.ok n r) {x : Dd} (hx : x.fit) : (dueH M x).2.ok (n + 1) (r + 8) := by
  have k0 : M.ok (n + 1) (r + 8) := k.mono (by omega) (by omega)
  have T := k.T
  have dka : ∀ {z : Str} {i : Nat} {d : Dh}, fnd M.ds z = some (i, d) → d.ok M r := fun h => k.dk _ (List.mem_of_getElem? (fnd_get h))
  have bka : ∀ {z : Str} {i : Nat} {B : Bt}, fnd M.bs z = some (i, B) → BzOk M (z, B) := fun h => k.bk _ (List.mem_of_getElem? (fnd_get h))
  cases x with
  | addD z a f m =>
    unfold dueH
    dsimp only
    split
    · exact k0
    · rename_i h
      have w := (newD_ok k hx.1).mono (show r + 1 ≤ r + 8 by omega)
      refine ⟨k.tab, k.k1, k.k8, k.kd, k.s0, k.s1, ?_, nodup_snoc k.dn h, fun p hp => ?_, k0.bl, k.bn, fun p hp => ⟨(k.bk p hp).b, (k.bk p hp).z, (k.bk p hp).e, (k.bk p hp).t, (k.bk p hp).a0, (k.bk p hp).a1, (k.bk p hp).k⟩, k0.kl, k.kk, fun p hp => ?_⟩
      rotate_right
      · rcases List.mem_append.mp hp with hp | hp
        · exact k.dz p hp
        · rw [List.mem_singleton.mp hp]
          exact hx.2
      · show (M.ds ++ [_]).length ≤ n + 1
        rw [List.length_append]
        exact Nat.succ_le_succ k.dl
      · rcases List.mem_append.mp hp with hp | hp
        · have q := k0.dk p hp
          exact ⟨q.L, q.t, q.k, q.c, q.m, q.rl, q.ol, q.pl⟩
        · rw [List.mem_singleton.mp hp]
          exact ⟨w.L, w.t, w.k, w.c, w.m, w.rl, w.ol, w.pl⟩
  | addB z s =>
    unfold dueH
    dsimp only
    split
    · exact k0
    · rename_i h
      have k1 := k.k1
      refine ⟨k.tab, k.k1, k.k8, k.kd, k.s0, k.s1, k0.dl, k.dn, fun p hp => ⟨(k0.dk p hp).L, (k0.dk p hp).t, (k0.dk p hp).k, (k0.dk p hp).c, (k0.dk p hp).m, (k0.dk p hp).rl, (k0.dk p hp).ol, (k0.dk p hp).pl⟩, ?_, nodup_snoc k.bn h, fun p hp => ?_, k0.kl, k.kk, k.dz⟩
      · show (M.bs ++ [_]).length ≤ n + 1
        rw [List.length_append]
        exact Nat.succ_le_succ k.bl
      · rcases List.mem_append.mp hp with hp | hp
        · have q := k.bk p hp
          exact ⟨q.b, q.z, q.e, q.t, q.a0, q.a1, q.k⟩
        · rw [List.mem_singleton.mp hp]
          refine ⟨.new k.tab hx.1.low hx.2.1 hx.2.2, hx.1, rfl, rfl, ?_, ?_, ?_⟩
          · show (0 : Int) ≤ M.keys.length - 1
            omega
          · show (M.keys.length : Int) - 1 < M.keys.length
            omega
          · show M.keys.getD (M.keys.length - 1) [] = M.keys.getD ((M.keys.length : Int) - 1).toNat []
            congr 1
            omega
  | teach dz bz =>
    unfold dueH
    dsimp only
    split
    · rename_i i d j B h1 h2
      split
      · exact k0
      · rename_i ht
        have kd := dka h1
        have kb := bka h2
        obtain ⟨hl, hg, hn, hc, hm⟩ := teach_learn (p := (bz, B)) kd kb ht
        dsimp only at hn hc hg hl
        have kb2 := kb.press (by omega)
        have n2 : B.press.n = B.n + 1 := rfl
        have kb3 := kb2.press (by rw [n2]; omega)
        have p1 := Bt.pz_ok (p := (bz, B)) kb T (deed := 0) (by omega) (by omega) (by show B.n < 4096; omega)
        have p2 := Bt.pz_ok (p := (bz, B.press)) kb2 T (deed := 0) (by omega) (by omega) (by show B.press.n < 4096; rw [n2]; omega)
        have a1 := k.addK (ps := [B.pz 0, B.press.pz 0]) fun p hp => by
          simp only [List.mem_cons, List.not_mem_nil, or_false] at hp
          rcases hp with rfl | rfl
          · exact p1
          · exact p2
        have a2 := a1.setB (z := bz) (i := j) (B := B) (B2 := B.press.press) h2 ⟨kb3.b, kb3.z, kb3.e, kb3.t, kb3.a0, kb3.a1, kb3.k⟩
        have el : (eput d.D.es B.z ⟨B.age, B.n + 1, none⟩).length ≤ d.D.es.length + 1 := eput_length
        have m2 := kd.L.ok.m2
        have n0 : 0 ≤ B.n := kb.b.n0
        have hd2 : (d.learn (B.pz 0) (B.press.pz 0) (B.n + 1)).ok M (r + 1) := by
          refine ⟨kd.L.put p1.z (by show (eput d.D.es B.z ⟨B.age, B.n + 1, none⟩).length ≤ 12; omega) ⟨kb.a0, by show B.age < d.D.keys.length; rw [kd.k]; exact kb.a1, by show 1 ≤ B.n + 1; omega, by show B.n + 1 ≤ 4095; omega⟩ (fun q hq => by cases hq), kd.t, kd.k, kd.c, by show ((eput d.D.es B.z ⟨B.age, B.n + 1, none⟩).length : Int) ≤ d.D.most; omega, ?_, Nat.le_trans kd.ol (Nat.le_succ r), fun x hx => ?_⟩
          · show (d.rows ++ [_]).length ≤ r + 1
            rw [List.length_append]
            exact Nat.succ_le_succ kd.rl
          · rcases List.mem_append.mp hx with hx | hx
            · exact kd.pl x hx
            · rw [List.mem_singleton.mp hx]
              exact .three .str (.prs (by rw [p1.l]; omega)) (.prs (by rw [p2.l]; omega))
        have a3 := a2.setD (r2 := r + 2) (Nat.le_refl _) (z := dz) (i := i) (d := d) (d2 := d.learn (B.pz 0) (B.press.pz 0) (B.n + 1)) h1 (by
          have q := hd2.mono (show r + 1 ≤ r + 2 by omega)
          exact ⟨q.L, q.t, q.k, q.c, q.m, q.rl, q.ol, q.pl⟩)
        exact a3.mono (by omega) (by omega)
    · exact k0
  | forget dz bz =>
    unfold dueH
    dsimp only
    split
    · rename_i i d q h1 h2
      split
      · rename_i e he
        have kd := dka h1
        have el : (edrop d.D.es bz).length ≤ d.D.es.length := edrop_length
        have m := kd.m
        refine (k.setD (Nat.le_succ r) h1 (d2 := { d with D := { d.D with es := edrop d.D.es bz }, rows := d.rows ++ [.tup [.str "forget", .str bz]] }) ⟨kd.L.drop, kd.t, kd.k, kd.c, by show ((edrop d.D.es bz).length : Int) ≤ d.D.most; omega, ?_, Nat.le_trans kd.ol (Nat.le_succ r), fun x hx => ?_⟩).mono (by omega) (by omega)
        · show (d.rows ++ [_]).length ≤ r + 1
          rw [List.length_append]
          exact Nat.succ_le_succ kd.rl
        · rcases List.mem_append.mp hx with hx | hx
          · exact kd.pl x hx
          · rw [List.mem_singleton.mp hx]; exact .two .str .str
      · exact k0
    · exact k0
  | press b deed zs x =>
    unfold dueH
    dsimp only
    split
    · exact k0
    · rename_i hp
      split
      · rename_i j B h2
        have kb := bka h2
        unfold pressR at hp
        rw [h2] at hp
        dsimp only at hp
        have nb := kb.b.nb
        have b1 := kb.b.b1
        dsimp only at nb b1
        have hn : B.n < 4096 := by
          split at hp
          · cases hp
          · split at hp
            · cases hp
            · omega
        have p1 := Bt.pz_ok (p := (b, B)) kb T hx.1 hx.2.1 hn
        have a1 := k.addK (ps := [B.pz deed]) fun p hp => by rw [List.mem_singleton.mp hp]; exact p1
        have kb2 := kb.press hn
        have a2 := a1.setB (z := b) (i := j) (B := B) (B2 := B.press) h2 ⟨kb2.b, kb2.z, kb2.e, kb2.t, kb2.a0, kb2.a1, kb2.k⟩
        have a3 := (lisF_ok p1 (j := M.kept.length) zs ([], _) _ a2).1
        exact a3.mono (by omega) (by have := hx.2.2; show r + 1 + zs.length ≤ r + 8; omega)
      · exact k0
  | play j dz =>
    unfold dueH
    dsimp only
    split
    · exact k0
    · split
      · split
        · rename_i p hp
          exact (k.lis (k.kk p (List.mem_of_getElem? hp))).mono (by omega) (by omega)
        · exact k0
      · exact k0
  | lose b =>
    unfold dueH
    dsimp only
    split
    · exact k0
    · rename_i j B h2
      exact (k.setB h2 (bka h2).outK).mono (by omega) (by omega)
  | tear b =>
    unfold dueH
    dsimp only
    split
    · exact k0
    · rename_i j B h2
      exact (k.setB h2 (bka h2).tornK).mono (by omega) (by omega)
  | turnH ks =>
    unfold dueH
    dsimp only
    split
    · rename_i h
      exact (k.turn h hx).mono (by omega) (by omega)
    · exact k0
  | turnB b =>
    unfold dueH
    dsimp only
    split
    · exact k0
    · rename_i j B h2
      split
      · rename_i h
        have kb := bka h2
        have a0 := kb.a0
        dsimp only at a0
        exact (k.setB h2 (B2 := { B with key := M.keys.getD (B.age + 1).toNat [], age := B.age + 1 }) ⟨⟨kb.b.tl, kb.b.lo, kb.b.s1, kb.b.s2, kb.b.n0, kb.b.nb, kb.b.b1, kb.b.cc, kb.b.u0, kb.b.u1⟩, kb.z, kb.e, kb.t, by show 0 ≤ B.age + 1; omega, h, rfl⟩).mono (by omega) (by omega)
      · exact k0
  | close a =>
    unfold dueH
    dsimp only
    split
    · rename_i h
      exact (k.close h.1 h.2).mono (by omega) (by omega)
    · exact k0
theorem due_ref {M : Hm} {x : Dd} {w : Str} {p : Option Int} (h : (dueH M x).1 = .ref w p) : (dueH M x).2 = M := by
  have ht : ∀ {o : Option Ot} {v : LV} {N : Hm}, (match o with | some o => (o, M) | none => (Ot.told v, N)).1 = Ot.ref w p → (match o with | some o => (o, M) | none => (Ot.told v, N)).2 = M := fun {o v N} h => by
    cases o with
    | some o => rfl
    | none => cases h
  cases x <;> unfold dueH at h ⊢ <;> dsimp only at h ⊢ <;> repeat' split
  all_goals first
    | rfl
    | (simp only [reduceCtorEq] at h; done)
    | (simp_all; done)
/-! ### where doors and buttons stand -/
theorem Dz.inD {z : Str} {A : Da} {q : Addr} {d : Dh} {Ps : List HP} {h : LH} (s : stars (dr A d.D d.f d.rows :: pts q (.lst (d.op.map .int)) :: Ps) h) : stars (Dz.hp (z, ⟨A, q, d⟩) :: Ps) h := stars_close (Qs := [dr A d.D d.f d.rows, pts q (.lst (d.op.map .int))]) s
theorem newD_op {M : Hm} {a f m : Int} : (newD M a f m).op = [] := by unfold newD; split <;> rfl
theorem dDoor_add {zs : List (Str × Dz)} {z : Str} {x : Dz} (h : fnd zs z = none) : dput (dDoor zs) (.inr z) (.ref x.A.o) = dDoor (zs ++ [(z, x)]) := by
  rw [dput_fnd h]
  exact dmap_snoc (f := fun x : Dz => LV.ref x.A.o)
theorem dOpen_add {zs : List (Str × Dz)} {z : Str} {x : Dz} (h : fnd zs z = none) : dput (dOpen zs) (.inr z) (.ref x.q) = dOpen (zs ++ [(z, x)]) := by
  rw [dput_fnd h]
  exact dmap_snoc (f := fun x : Dz => LV.ref x.q)
theorem dBut_add {zs : List (Str × Bz)} {z : Str} {x : Bz} (h : fnd zs z = none) : dput (dBut zs) (.inr z) (.ref x.o) = dBut (zs ++ [(z, x)]) := by
  rw [dput_fnd h]
  exact dmap_snoc (f := fun x : Bz => LV.ref x.o)
section
variable {Ps Qs : List HP} {h : LH}
theorem dz_at {zs : List (Str × Dz)} {i : Nat} {z : Str} {x : Dz} (s : stars Ps h) (k : Pk Ps (big Dz.hp zs) Qs) (e : zs[i]? = some (z, x)) : ∃ R : HP, stars (dr x.A x.d.D x.d.f x.d.rows :: pts x.q (.lst (x.d.op.map .int)) :: R :: Qs) h ∧ ∀ d h' Qs', stars (dr x.A d.D d.f d.rows :: pts x.q (.lst (d.op.map .int)) :: R :: Qs') h' → stars (big Dz.hp (zs.set i (z, { x with d := d })) :: Qs') h' := by
  obtain ⟨R, H, c⟩ := big_at s k e
  exact ⟨R, Dz.out H, fun d h' Qs' s' => c _ _ _ (Dz.inD s')⟩
theorem bz_at {zs : List (Str × Bz)} {i : Nat} {z : Str} {x : Bz} (s : stars Ps h) (k : Pk Ps (big Bz.hp zs) Qs) (e : zs[i]? = some (z, x)) : ∃ R : HP, stars (bt x.o x.c x.B :: R :: Qs) h ∧ ∀ B h' Qs', stars (bt x.o x.c B :: R :: Qs') h' → stars (big Bz.hp (zs.set i (z, { x with B := B })) :: Qs') h' := by
  obtain ⟨R, H, c⟩ := big_at s k e
  exact ⟨R, H, fun d h' Qs' s' => c _ _ _ s'⟩
end
/-- the names of what is known -/
def row0 : LV → LV
  | .tup (y :: _) => y
  | _ => .non
theorem known_row0 {D : Dm} (k : D.ok) : (knownF D).map row0 = (srtS (names D.es)).map .str := by
  unfold knownF
  rw [List.map_map]
  refine List.map_congr_left fun z hz => ?_
  obtain ⟨-, e, he⟩ := names_nm k ((srtS_perm _).mem_iff.mp hz)
  show row0 (match eget D.es z with
    | some e => .tup [.str z, .int e.age, .int e.last, wv e.w]
    | none => .non) = .str z
  rw [he]
  rfl
theorem known_mem {D : Dm} {z : Str} : z ∈ srtS (names D.es) ↔ eget D.es z ≠ none := by
  rw [(srtS_perm _).mem_iff]
  constructor
  · intro h e
    obtain ⟨p, hp, e2⟩ := List.mem_map.mp h
    exact eget_none.mp e p hp e2
  · intro h
    cases e : eget D.es z with
    | none => exact absurd e h
    | some x => exact List.mem_map.mpr ⟨_, eget_mem e, rfl⟩
theorem known_lenN {D : Dm} : (srtS (names D.es)).length = D.es.length := by rw [(srtS_perm _).length_eq]; unfold names; rw [List.length_map]
section
variable {M : Hm} {X : Ha} {zs : List (Str × Dz)} {bz : List (Str × Bz)} {Ps : List HP} {h : LH} {j i : Nat} {b z : Str} {y : Bz} {x : Dz}
theorem hs_setB (B : Bt) (ed : edz zs = M.ds) (eb : ebz bz = M.bs) (hy : bz[j]? = some (b, y)) (s : stars (pts X.o (.ins .House (M.fs X)) :: pts X.k (.lst (M.keys.map tupI)) :: pts X.d (.dic (dDoor zs)) :: pts X.b (.dic (dBut bz)) :: pts X.p (.lst (M.kept.map Pz.lv)) :: pts X.q (.dic (dOpen zs)) :: big Dz.hp zs :: big Bz.hp (bz.set j (b, { y with B := B })) :: Ps) h) : stars (hs X.o { M with bs := M.bs.set j (b, B) } :: Ps) h := by
  rw [← dBut_set (B := B) hy] at s
  exact hs_in (M := { M with bs := M.bs.set j (b, B) }) (zs := zs) (bz := bz.set j (b, { y with B := B })) ed (by rw [ebz_set, eb]) s
theorem hs_setD (d : Dh) (ed : edz zs = M.ds) (eb : ebz bz = M.bs) (hx : zs[i]? = some (z, x)) (s : stars (pts X.o (.ins .House (M.fs X)) :: pts X.k (.lst (M.keys.map tupI)) :: pts X.d (.dic (dDoor zs)) :: pts X.b (.dic (dBut bz)) :: pts X.p (.lst (M.kept.map Pz.lv)) :: pts X.q (.dic (dOpen zs)) :: big Dz.hp (zs.set i (z, { x with d := d })) :: big Bz.hp bz :: Ps) h) : stars (hs X.o { M with ds := M.ds.set i (z, d) } :: Ps) h := by
  rw [← dDoor_set (d := d) hx, ← dOpen_set (d := d) hx] at s
  exact hs_in (M := { M with ds := M.ds.set i (z, d) }) (zs := zs.set i (z, { x with d := d })) (bz := bz) (by rw [edz_set, ed]) eb s
theorem ow_setB (B : Bt) (ed : edz zs = M.ds) (eb : ebz bz = M.bs) (hy : bz[j]? = some (b, y)) (s : stars (pts X.o (.dic (M.dd X)) :: pts X.k (.lst (M.keys.map tupI)) :: pts X.d (.dic (dDoor zs)) :: pts X.b (.dic (dBut bz)) :: pts X.p (.lst (M.kept.map Pz.lv)) :: pts X.q (.dic (dOpen zs)) :: big Dz.hp zs :: big Bz.hp (bz.set j (b, { y with B := B })) :: Ps) h) : stars (ow X.o { M with bs := M.bs.set j (b, B) } :: Ps) h := by
  rw [← dBut_set (B := B) hy] at s
  exact ow_in (M := { M with bs := M.bs.set j (b, B) }) (zs := zs) (bz := bz.set j (b, { y with B := B })) ed (by rw [ebz_set, eb]) s
theorem ow_setD (d : Dh) (ed : edz zs = M.ds) (eb : ebz bz = M.bs) (hx : zs[i]? = some (z, x)) (s : stars (pts X.o (.dic (M.dd X)) :: pts X.k (.lst (M.keys.map tupI)) :: pts X.d (.dic (dDoor zs)) :: pts X.b (.dic (dBut bz)) :: pts X.p (.lst (M.kept.map Pz.lv)) :: pts X.q (.dic (dOpen zs)) :: big Dz.hp (zs.set i (z, { x with d := d })) :: big Bz.hp bz :: Ps) h) : stars (ow X.o { M with ds := M.ds.set i (z, d) } :: Ps) h := by
  rw [← dDoor_set (d := d) hx, ← dOpen_set (d := d) hx] at s
  exact ow_in (M := { M with ds := M.ds.set i (z, d) }) (zs := zs.set i (z, { x with d := d })) (bz := bz) (by rw [edz_set, ed]) eb s
end
theorem isOpen_held {w : Str} : isOpen (heldA w) = false := by
  show decide (("held" : Str) = "open") = false
  decide
/-- all doors changed, up to a place -/
def updZ (g : Dh → Dh) (p : Str × Dz) : Str × Dz := (p.1, { p.2 with d := g p.2.d })
def zpart (g : Dh → Dh) (zs : List (Str × Dz)) (i : Nat) : List (Str × Dz) := (zs.take i).map (updZ g) ++ zs.drop i
theorem zpart_zero {g : Dh → Dh} {zs : List (Str × Dz)} : zpart g zs 0 = zs := rfl
theorem zpart_all {g : Dh → Dh} {zs : List (Str × Dz)} : zpart g zs zs.length = zs.map (updZ g) := by
  unfold zpart
  rw [List.take_length, List.drop_length, List.append_nil]
theorem zpart_get {g : Dh → Dh} {zs : List (Str × Dz)} {i : Nat} {p : Str × Dz} (h : zs[i]? = some p) : (zpart g zs i)[i]? = some p := by
  have hi : i < zs.length := (List.getElem?_eq_some_iff.mp h).1
  unfold zpart
  rw [List.getElem?_append_right (by rw [List.length_map, List.length_take]; omega), List.length_map, List.length_take, List.getElem?_drop]
  rw [show i + (i - min i zs.length) = i by omega]
  exact h
theorem zpart_set {g : Dh → Dh} {zs : List (Str × Dz)} {i : Nat} {z : Str} {x : Dz} (h : zs[i]? = some (z, x)) : (zpart g zs i).set i (z, { x with d := g x.d }) = zpart g zs (i + 1) := by
  have hi : i < zs.length := (List.getElem?_eq_some_iff.mp h).1
  unfold zpart
  rw [take_snoc h, List.map_append, List.set_append_right _ _ (by rw [List.length_map, List.length_take]; omega), List.length_map, List.length_take, show i - min i zs.length = 0 by omega, List.append_assoc]
  congr 1
  have hd : zs.drop i = (z, x) :: zs.drop (i + 1) := by
    obtain ⟨hi, e⟩ := List.getElem?_eq_some_iff.mp h
    rw [← e, List.getElem_cons_drop]
  rw [hd]
  rfl
theorem edz_map {g : Dh → Dh} {zs : List (Str × Dz)} : edz (zs.map (updZ g)) = (edz zs).map fun p => (p.1, g p.2) := by
  unfold edz
  rw [List.map_map, List.map_map]
  rfl
theorem dDoor_map {g : Dh → Dh} {zs : List (Str × Dz)} : dDoor (zs.map (updZ g)) = dDoor zs := by
  unfold dDoor dmap
  rw [List.map_map]
  rfl
theorem dOpen_map {g : Dh → Dh} {zs : List (Str × Dz)} : dOpen (zs.map (updZ g)) = dOpen zs := by
  unfold dOpen dmap
  rw [List.map_map]
  rfl
theorem zs_ok {M : Hm} {n r : Nat} (k : M.ok n r) {zs : List (Str × Dz)} (ed : edz zs = M.ds) {p : Str × Dz} (hp : p ∈ zs) : p.2.d.ok M r := k.dk (p.1, p.2.d) (by rw [← ed]; exact List.mem_map.mpr ⟨p, hp, rfl⟩)
section
variable {M : Hm} {X : Ha} {zs : List (Str × Dz)} {bz : List (Str × Bz)} {Ps : List HP} {h : LH}
theorem hs_mapD (g : Dh → Dh) (ed : edz zs = M.ds) (eb : ebz bz = M.bs) (s : stars (pts X.o (.ins .House (M.fs X)) :: pts X.k (.lst (M.keys.map tupI)) :: pts X.d (.dic (dDoor zs)) :: pts X.b (.dic (dBut bz)) :: pts X.p (.lst (M.kept.map Pz.lv)) :: pts X.q (.dic (dOpen zs)) :: big Dz.hp (zs.map (updZ g)) :: big Bz.hp bz :: Ps) h) : stars (hs X.o { M with ds := M.ds.map fun p => (p.1, g p.2) } :: Ps) h := by
  rw [← dDoor_map (g := g), ← dOpen_map (g := g)] at s
  exact hs_in (M := { M with ds := M.ds.map fun p => (p.1, g p.2) }) (zs := zs.map (updZ g)) (bz := bz) (by rw [edz_map, ed]) eb s
theorem ow_mapD (g : Dh → Dh) (ed : edz zs = M.ds) (eb : ebz bz = M.bs) (s : stars (pts X.o (.dic (M.dd X)) :: pts X.k (.lst (M.keys.map tupI)) :: pts X.d (.dic (dDoor zs)) :: pts X.b (.dic (dBut bz)) :: pts X.p (.lst (M.kept.map Pz.lv)) :: pts X.q (.dic (dOpen zs)) :: big Dz.hp (zs.map (updZ g)) :: big Bz.hp bz :: Ps) h) : stars (ow X.o { M with ds := M.ds.map fun p => (p.1, g p.2) } :: Ps) h := by
  rw [← dDoor_map (g := g), ← dOpen_map (g := g)] at s
  exact ow_in (M := { M with ds := M.ds.map fun p => (p.1, g p.2) }) (zs := zs.map (updZ g)) (bz := bz) (by rw [edz_map, ed]) eb s
end
/-- what turning and closing do to one door -/
def Dh.turn (ks : List Int) (d : Dh) : Dh := { d with D := { d.D with keys := d.D.keys ++ [ks] }, rows := d.rows ++ [.tup [.str "turn", tupI ks]] }
def Dh.close (a : Int) (d : Dh) : Dh := { d with D := { d.D with closed := if a > d.D.closed then a else d.D.closed }, rows := d.rows ++ [.tup [.str "close", .int a]] }
theorem known_is {D : Dm} (k : D.ok) {x : LV} (h : x ∈ knownF D) : ∃ z a l w, x = .tup [.str z, .int a, .int l, wv w] := by
  unfold knownF at h
  obtain ⟨z, hz, rfl⟩ := List.mem_map.mp h
  obtain ⟨-, e, he⟩ := names_nm k ((srtS_perm _).mem_iff.mp hz)
  rw [he]
  exact ⟨_, _, _, _, rfl⟩
theorem gLi_seqG {s : LS} {h : LH} {L : LK} {lt : LTT} {le : LTE} {xs : List LV} {x : LV} {Ps : List HP} {nt : NT} {vs : List Nat} {ff : LV → LS} (G : Nat → List LV → List HP → Prop) (H : stars Ps h) (e : seqOf h x = some xs) (keep : ∀ D i acc Qs h', G i acc Qs → stars (pts D (.lst acc) :: Qs) h' → seqOf h' x = some xs) (ef : ∀ x, nt.put x (lwipe s vs) = some (ff x)) (q0 : ∃ Qs, Ent Ps Qs ∧ G 0 [] Qs)
    (step : ∀ D i x acc Qs h', xs[i]? = some x → i < xs.length → acc.length ≤ i → G i acc Qs → stars (pts D (.lst acc) :: Qs) h' → lt (ff x) h' X0 fun b h3 => if b = true then le (ff x) h3 X0 (gApp xs.length D G i) else gInv xs.length D G (i + 1) h3)
    (stop : ∀ D acc Qs h', acc.length ≤ xs.length → G xs.length acc Qs → stars (pts D (.lst acc) :: Qs) h' → L (.ref D) h') : gLi x h fun it h1 => kLc nt lt le vs s it h1 L := by
  rcases seqOf_split e with rfl | rfl | ⟨a, rfl, ea⟩
  · exact s_lcS G H ef q0 step stop
  · exact s_lcS G H ef q0 step stop
  · refine i_liL ea ?_
    exact s_lcL (xs := xs) G H (fun D i acc Qs h' hg hs => seqOf_ref (keep D i acc Qs h' hg hs)) ef q0 step stop
end VL

set_option Elab.async false
set_option linter.all false
set_option maxRecDepth 100000
set_option maxHeartbeats 4000000
/-! calls of a house's methods -/
namespace VL
open PySem PySem.Spec PyProof.Rows L2
theorem hs_cls {o : Addr} {M : Hm} {Ps Qs : List HP} {h : LH} (s : stars Ps h) (k : Pk Ps (hs o M) Qs) : ∃ fs, h o = some (.ins .House fs) := by
  obtain ⟨X, zs, bz, rfl, e1, e2, H⟩ := hs_out s k
  exact ⟨_, stars_get0 H⟩
theorem i_methH {o : Addr} {M : Hm} {Ps Qs : List HP} {h : LH} {Q : Prop} (s : stars Ps h) (k : Pk Ps (hs o M) Qs) (q : Q) : gMth .House (.ref o) h Q := by
  obtain ⟨fs, e⟩ := hs_cls s k
  exact i_methG e q
theorem i_in_tupB {b : Bool} {x : LV} {ys : List LV} {v : V} {ws : List V} {h : LH} {L : LK} {F : Bool → Bool} (e1 : lfl x = some v) (e2 : lfls ys = some ws) (e3 : inV v ws = b) (q : L (.bl (F b)) h) : gIn F x (.tup ys) h L := by
  show gInL F x ys h L
  unfold gInL
  rw [e1, e2]
  dsimp only
  rw [e3]
  exact q
theorem i_in_tupT {x : LV} {ys : List LV} {v : V} {ws : List V} {h : LH} {L : LK} (e1 : lfl x = some v) (e2 : lfls ys = some ws) (e3 : inV v ws = true) (q : L (.bl true) h) : gIn id x (.tup ys) h L := i_in_tupB e1 e2 e3 q
theorem i_in_tupF {x : LV} {ys : List LV} {v : V} {ws : List V} {h : LH} {L : LK} (e1 : lfl x = some v) (e2 : lfls ys = some ws) (e3 : inV v ws = false) (q : L (.bl false) h) : gIn id x (.tup ys) h L := i_in_tupB e1 e2 e3 q
theorem st_ite {b : Bool} {h : LH} {L : LK} (q : L (.int (if b = true then 1 else 0)) h) : L (.int (if b = true then 1 else 0)) h := q
end VL

set_option Elab.async false
set_option linter.all false
set_option maxRecDepth 100000
set_option maxHeartbeats 4000000
/-! more about the deeds of a house -/
namespace VL
open PySem PySem.Spec PyProof.Rows L2
/-- a deed that puts nothing in -/
def Dd.noadd : Dd → Prop
  | .addD _ _ _ _ => False
  | .addB _ _ => False
  | _ => True
/-- its word -/
def Dd.word : Dd → Str
  | .addD _ _ _ _ => "add_door"
  | .addB _ _ => "add_button"
  | .teach _ _ => "teach"
  | .forget _ _ => "forget_at"
  | .press _ _ _ _ => "press_button"
  | .play _ _ => "play_kept"
  | .lose _ => "lose_cell"
  | .tear _ => "tear_cell"
  | .turnH _ => "turn_house"
  | .turnB _ => "turn_button"
  | .close _ => "close_ages"
theorem Dd.noadd_of {x : Dd} (h1 : x.word ≠ "add_door") (h2 : x.word ≠ "add_button") : x.noadd := by
  cases x with
  | addD _ _ _ _ => exact h1 rfl
  | addB _ _ => exact h2 rfl
  | _ => exact trivial
theorem mem_of_fnd {α : Type} {xs : List (Str × α)} {z : Str} {q : Nat × α} (h : fnd xs z = some q) : z ∈ xs.map (·.1) :=
  List.mem_map.mpr ⟨_, List.mem_of_getElem? (fnd_get (i := q.1) (x := q.2) h), rfl⟩
theorem fnd_setS {α : Type} : ∀ {xs : List (Str × α)} {z : Str} {i : Nat} {x y : α}, fnd xs z = some (i, x) → fnd (xs.set i (z, y)) z = some (i, y)
  | [], _, _, _, _, h => by cases h
  | p :: r, z, i, x, y, h => by
    unfold fnd at h
    split at h
    · cases h
      show fnd ((z, y) :: r) z = _
      unfold fnd
      rw [if_pos rfl]
    · rename_i hz
      cases er : fnd r z with
      | none => rw [er] at h; cases h
      | some q =>
        rw [er] at h
        cases h
        show fnd (p :: r.set q.1 (z, y)) z = _
        unfold fnd
        rw [if_neg hz, fnd_setS (xs := r) (i := q.1) (x := q.2) er]
        rfl
/-- the names behind a deed -/
theorem dueH_names (M : Hm) (x : Dd) : (∃ t, (dueH M x).2.ds.map (·.1) = M.ds.map (·.1) ++ t ∧ (x.noadd → t = [])) ∧ (∃ t, (dueH M x).2.bs.map (·.1) = M.bs.map (·.1) ++ t ∧ (x.noadd → t = [])) := by
  have same : ∀ {N : Hm}, N.ds.map (·.1) = M.ds.map (·.1) → N.bs.map (·.1) = M.bs.map (·.1) → (∃ t, N.ds.map (·.1) = M.ds.map (·.1) ++ t ∧ (x.noadd → t = [])) ∧ (∃ t, N.bs.map (·.1) = M.bs.map (·.1) ++ t ∧ (x.noadd → t = [])) := fun h1 h2 =>
    ⟨⟨[], by rw [h1, List.append_nil], fun _ => rfl⟩, ⟨[], by rw [h2, List.append_nil], fun _ => rfl⟩⟩
  cases x with
  | addD z a f m =>
    unfold dueH
    dsimp only
    split
    · exact same rfl rfl
    · exact ⟨⟨[z], by dsimp only; rw [List.map_append]; rfl, fun h => h.elim⟩, ⟨[], (List.append_nil _).symm, fun _ => rfl⟩⟩
  | addB z s =>
    unfold dueH
    dsimp only
    split
    · exact same rfl rfl
    · exact ⟨⟨[], (List.append_nil _).symm, fun _ => rfl⟩, ⟨[z], by dsimp only; rw [List.map_append]; rfl, fun h => h.elim⟩⟩
  | teach d b =>
    unfold dueH
    dsimp only
    split
    · rename_i h1 h2
      split
      · exact same rfl rfl
      · exact same (names_set (fnd_get h1)) (names_set (fnd_get h2))
    · exact same rfl rfl
  | forget d b =>
    unfold dueH
    dsimp only
    split
    · rename_i h1 h2
      split
      · exact same (names_set (fnd_get h1)) rfl
      · exact same rfl rfl
    · exact same rfl rfl
  | press b deed zs v =>
    unfold dueH
    dsimp only
    split
    · exact same rfl rfl
    · split
      · rename_i j B h1
        have g := lisF_same (p := B.pz deed) (j := M.kept.length) zs ([], { M with bs := M.bs.set j (b, B.press), kept := M.kept ++ [B.pz deed] })
        refine same g.2.2.2.2.2 ?_
        exact (congrArg (fun l : List (Str × Bt) => l.map (·.1)) g.2.2.2.1).trans (names_set (fnd_get h1))
      · exact same rfl rfl
  | play k d =>
    unfold dueH
    dsimp only
    split
    · exact same rfl rfl
    · split
      · split
        · exact same lis_same.2.2.2.2.2 (by rw [lis_same.2.2.2.1])
        · exact same rfl rfl
      · exact same rfl rfl
  | lose b =>
    unfold dueH
    dsimp only
    split
    · exact same rfl rfl
    · rename_i h1
      exact same rfl (names_set (fnd_get h1))
  | tear b =>
    unfold dueH
    dsimp only
    split
    · exact same rfl rfl
    · rename_i h1
      exact same rfl (names_set (fnd_get h1))
  | turnH k =>
    unfold dueH
    dsimp only
    split
    · refine same ?_ rfl
      first
        | (unfold Hm.turn; dsimp only; rw [List.map_map]; rfl)
        | (unfold Hm.close; dsimp only; rw [List.map_map]; rfl)
    · exact same rfl rfl
  | turnB b =>
    unfold dueH
    dsimp only
    split
    · exact same rfl rfl
    · rename_i h1
      split
      · exact same rfl (names_set (fnd_get h1))
      · exact same rfl rfl
  | close a =>
    unfold dueH
    dsimp only
    split
    · refine same ?_ rfl
      first
        | (unfold Hm.turn; dsimp only; rw [List.map_map]; rfl)
        | (unfold Hm.close; dsimp only; rw [List.map_map]; rfl)
    · exact same rfl rfl
theorem hdue_okN {M : Hm} {n r : Nat} (k : M.ok n r) {x : Dd} (hx : x.fit) (hn : x.noadd) : (dueH M x).2.ok n (r + 8) := by
  have h := hdue_ok k hx
  obtain ⟨⟨t1, e1, f1⟩, ⟨t2, e2, f2⟩⟩ := dueH_names M x
  have g1 := congrArg List.length e1
  have g2 := congrArg List.length e2
  rw [f1 hn, List.append_nil, List.length_map, List.length_map] at g1
  rw [f2 hn, List.append_nil, List.length_map, List.length_map] at g2
  exact ⟨h.tab, h.k1, h.k8, h.kd, h.s0, h.s1, by rw [g1]; exact k.dl, h.dn, h.dk, by rw [g2]; exact k.bl, h.bn, h.bk, h.kl, h.kk, h.dz⟩
theorem due_dl {M : Hm} {x : Dd} : M.ds.length ≤ (dueH M x).2.ds.length := by
  obtain ⟨⟨t1, e1, f1⟩, _⟩ := dueH_names M x
  have g1 := congrArg List.length e1
  rw [List.length_append, List.length_map, List.length_map] at g1
  omega
theorem due_keepB {M : Hm} {x : Dd} {z : Str} (h : ∃ q, fnd M.bs z = some q) : ∃ q, fnd (dueH M x).2.bs z = some q := by
  obtain ⟨q, hq⟩ := h
  obtain ⟨_, ⟨t2, e2, f2⟩⟩ := dueH_names M x
  refine fnd_some_of_mem ?_
  rw [e2]
  exact List.mem_append_left _ (mem_of_fnd hq)
theorem due_addB {M : Hm} {z : Str} {s : Int} : ∃ q, fnd (dueH M (.addB z s)).2.bs z = some q := by
  unfold dueH
  dsimp only
  split
  · rename_i q h
    exact ⟨q, h⟩
  · refine fnd_some_of_mem ?_
    dsimp only
    rw [List.map_append]
    exact List.mem_append_right _ (by show z ∈ [z]; exact List.mem_singleton.mpr rfl)
theorem due_addD {M : Hm} {z : Str} {n f m : Int} : 1 ≤ (dueH M (.addD z n f m)).2.ds.length := by
  unfold dueH
  dsimp only
  split
  · rename_i q h
    have := List.length_pos_of_mem (List.mem_of_getElem? (fnd_get (i := q.1) (x := q.2) h))
    exact this
  · show 1 ≤ (M.ds ++ [_]).length
    rw [List.length_append]
    exact Nat.le_add_left 1 _
theorem due_addW {M : Hm} {x : Dd} (h : x.word = "add_door") : 1 ≤ (dueH M x).2.ds.length := by
  cases x with
  | addD z n f m => exact due_addD
  | addB z s => exact absurd (show ("add_button" : Str) = "add_door" from h) (by decide)
  | teach d b => exact absurd (show ("teach" : Str) = "add_door" from h) (by decide)
  | forget d b => exact absurd (show ("forget_at" : Str) = "add_door" from h) (by decide)
  | press b d zs v => exact absurd (show ("press_button" : Str) = "add_door" from h) (by decide)
  | play k d => exact absurd (show ("play_kept" : Str) = "add_door" from h) (by decide)
  | lose b => exact absurd (show ("lose_cell" : Str) = "add_door" from h) (by decide)
  | tear b => exact absurd (show ("tear_cell" : Str) = "add_door" from h) (by decide)
  | turnH k => exact absurd (show ("turn_house" : Str) = "add_door" from h) (by decide)
  | turnB b => exact absurd (show ("turn_button" : Str) = "add_door" from h) (by decide)
  | close a => exact absurd (show ("close_ages" : Str) = "add_door" from h) (by decide)
/-- a press that no door hears -/
theorem due_press0 {M : Hm} {b : Str} {j : Nat} {B : Bt} {deed : Int} {v : LV} (e : fnd M.bs b = some (j, B)) (h : B.n < 4096) : (dueH M (.press b deed [] v)).2 = { M with bs := M.bs.set j (b, B.press), kept := M.kept ++ [B.pz deed] } := by
  have hp : pressR M b [] = none := by
    unfold pressR
    rw [e]
    dsimp only
    rw [if_neg (by simp), if_neg (by omega)]
  unfold dueH
  dsimp only
  rw [hp]
  dsimp only
  rw [e]
  rfl
theorem press0_ok {M : Hm} {n r : Nat} (k : M.ok n r) {b : Str} {j : Nat} {B : Bt} {deed : Int} (e : fnd M.bs b = some (j, B)) (h : B.n < 4096) (h0 : 0 ≤ deed) (h1 : deed < 16) : ({ M with bs := M.bs.set j (b, B.press), kept := M.kept ++ [B.pz deed] } : Hm).ok n (r + 1) := by
  have kb := k.bk _ (List.mem_of_getElem? (fnd_get e))
  exact (k.setB e (kb.press h)).addK (ps := [B.pz deed]) fun p hp => by
    rw [List.mem_singleton.mp hp]
    exact Bt.pz_ok kb k.T h0 h1 h
end VL

set_option Elab.async false
set_option linter.all false
set_option maxRecDepth 100000
set_option maxHeartbeats 4000000
/-! tuples whose object is known: t.index(i) -/
namespace VL
open PySem PySem.Spec PyProof.Rows L2
def wk : LV → LV
  | .xt xs => .tup xs
  | x => x
theorem RV.wk {K : PySem.W.Frag} {H : Hp} {x : LV} {v : V} (r : RV K H x v) : RV K H (VL.wk x) v := by
  cases r with
  | xt h q => exact .tup h.sq q
  | non => exact .non
  | bl b => exact .bl b
  | int i => exact .int i
  | str i => exact .str i
  | ref i => exact .ref i
  | ty i => exact .ty i
  | tup h q => exact .tup h q
  | rl h q => exact .rl h q
  | exc h => exact .exc h
  | cl c => exact .cl c
def lWk (la : LTE) : LTE := fun s h E L => la s h E fun x h1 => L (wk x) h1
section
variable {X : Cx} {W : WX} {e o : Expr} {es : List Expr} {la lo : LTE} {lr : LTA} {apos cpos : Pos}
theorem le_wk (ha : LE X W e la) : LE X W e (lWk la) := peW ha fun σ H Q ⟨s, h, E, L, z, hl, out⟩ => ⟨s, h, E, fun x h1 => L (wk x) h1, z, hl, fun v H1 x h1 t1 r1 rx q1 => out v H1 (wk x) h1 t1 r1 rx.wk q1⟩
/-! ### tuple(list), its object known -/
def gTupleX : LCR := fun xs h L => match xs with
  | [.ref a] => (match h a with
    | some (.lst ys) => L (.xt ys) h
    | _ => False)
  | _ => False
def rTupX (K : PySem.W.Frag) : List V → Hp → VK → Prop := fun xs H Q => ∃ p ys, xs = [.ref p] ∧ SqL K H p ys ∧ ∀ (l : Addr) (ob : Obj), H l = none → ob.dict = none → Q (.ref l) (L2.upd H l (.frz ob (.tup ys)))
theorem src_tupleX {K : PySem.W.Frag} : SRC K (rTupX K) gTupleX := fun H h xs vs L Q rh rx g o => by
  unfold gTupleX at g
  split at g
  · rename_i a
    cases rx with
    | cons r t =>
      cases t
      cases r
      split at g
      · rename_i ys ea
        obtain ⟨vs, e1, hr⟩ := rh a _ ea
        exact ⟨_, _, rfl, .of e1, fun p ob hp hd => o _ _ _ h (.new hp) (rh.new hp) (.xt ⟨ob, upd_same, hd⟩ (hr.mono (.new hp))) g⟩
      · exact g.elim
  · exact g.elim
theorem call_tupleX : CallR X (.type "tuple") (rTupX X.K) := by
  intro pins s σ H xs us Q I r h
  obtain ⟨p, ys, rfl, hq, q⟩ := h
  obtain ⟨u, rfl, rx⟩ := vals1 r
  cases rx
  obtain ⟨its, r', pl, hz⟩ := I.list hq
  have hlen := r'.length
  refine call_tuple_list pl.isList (fun h' kp => ?_) (by simp only [List.size_toArray] <;> omega)
  have I1 : Inv X pins σ H { s with heap := h' } := I.kept (t' := s.toks) kp
  have I2 : Inv X pins σ (L2.upd H h'.objs.size (.frz { cls := .type "tuple", data := .seq its.toArray } (.tup ys))) { s with heap := h'.push { cls := .type "tuple", data := .seq its.toArray } } :=
    I1.laid (t' := s.toks) (fun b o e => Heap.get?_push_of_some _ e) (Nat.le_refl _) (show ObjOk X.prog X.w _ _ _ (.frz _ (.tup ys)) from ⟨Heap.get?_push_size _ rfl, hz, its, r', IsTup.new _ _⟩)
  exact ⟨.ref h'.objs.size, _, I2, rfl, q _ _ (I1.hok.fresh (Nat.le_refl _)) rfl⟩
/-! ### t.index(i) -/
def tTIx (to : TE) (t : TA) : TE := fun σ H Q => to σ H fun x H1 => ∃ p, ∃ ns : List Int, x = .ref p ∧ FzT H1 p (ns.map V.int) ∧ t σ H1 fun vs H2 => ∃ k, vs = [.int k] ∧ k ∈ ns ∧ FzT H2 p (ns.map V.int) ∧ Q (.int (ns.idxOf k : Nat)) H2
theorem pe_tix {to : TE} {t : TA} (ho : PE X o to) (ha : PA X (e :: es) t)
    (hbase : attributeBase o "index" X.env (eval o X.env) = eval o X.env := by rfl)
    (hfew : ((backTo cpos (starEach (e :: es) X.env)).all (fun x => !x.1) && (backToKw cpos (keywordEach [] X.env)).all (fun x => x.1.isSome)
      && decide ((e :: es).length + ([] : List Keyword).length + (if ([] : List Keyword).isEmpty then 0 else 1) < 30)) = true := by rfl)
    (hline : (apos.endLine == cpos.line) = true := by rfl) (hs : starEach (e :: es) X.env = (false, eval e X.env) :: starEach es X.env := by rfl) (hplain : (backTo cpos (starEach es X.env)).any (·.1) = false := by rfl) :
    PE X (.Call (.Attribute o "index" apos) (e :: es) [] cpos) (tTIx to t) := by
  refine ⟨fun pins s σ H Q I h => ?_⟩
  refine wpAny_Call_method_late hbase hfew hline rfl (thn (ho.run pins s σ H _ I h) fun v s1 ⟨x, H1, I1, r1, p, ns, ex, ⟨ob, e1, hd⟩, q1⟩ => ?_)
  subst ex
  cases r1
  have ok := I1.hok p _ e1
  obtain ⟨its1, r11, p1, _⟩ := I1.tuple (FzT.sq (K := X.K) ⟨ob, e1, hd⟩)
  refine ⟨"tuple", "tuple.index", PySem.F.plainAttrs_tuple, PySem.F.slot_tuple_index, PySem.F.type_tuple_index, (let ⟨o, ho, hc, _⟩ := p1; ⟨o, ho, hc⟩), fun a e => by cases e; exact ⟨ob, ok.1, hd⟩, ?_⟩
  have hA := ha.run cpos pins s1 σ H1 _ I1 q1
  rw [hs] at hA ⊢
  refine Calls.callWith_builtin (by show (false || (backTo cpos (starEach es X.env)).any (·.1)) = false; rw [hplain] <;> rfl) (Calls.evalArgs_plain ?_)
  refine thn hA fun us s2 ⟨vs, H2, I2, r3, q2⟩ => ?_
  obtain ⟨k, rfl, hk, fz2, q⟩ := q2
  obtain ⟨u, rfl, t, rfl⟩ := vals1 r3
  obtain ⟨its2, r4, p2, _⟩ := I2.tuple (FzT.sq (K := X.K) fz2)
  exact SeqAt.tuple_index_ints p2 (Vals.ints r4) hk ⟨.int _, H2, I2.tok _, ⟨_, rfl⟩, q⟩
def lTIxE (lo : LTE) (lr : LTA) : LTE := fun s h E L => lo s h E fun x h1 => ∃ ns : List Int, x = .xt (ns.map .int) ∧ lr s h1 E fun ys h2 => ∃ k, ys = [.int k] ∧ k ∈ ns ∧ L (.int (ns.idxOf k : Nat)) h2
theorem le_tix (ho : LE X W o lo) (ha : LA X W (e :: es) lr)
    (hbase : attributeBase o "index" X.env (eval o X.env) = eval o X.env := by rfl)
    (hfew : ((backTo cpos (starEach (e :: es) X.env)).all (fun x => !x.1) && (backToKw cpos (keywordEach [] X.env)).all (fun x => x.1.isSome)
      && decide ((e :: es).length + ([] : List Keyword).length + (if ([] : List Keyword).isEmpty then 0 else 1) < 30)) = true := by rfl)
    (hline : (apos.endLine == cpos.line) = true := by rfl) (hs : starEach (e :: es) X.env = (false, eval e X.env) :: starEach es X.env := by rfl) (hplain : (backTo cpos (starEach es X.env)).any (·.1) = false := by rfl) :
    LE X W (.Call (.Attribute o "index" apos) (e :: es) [] cpos) (lTIxE lo lr) :=
  peW (pe_tix ho ha hbase hfew hline hs hplain) fun σ H Q ⟨s, h, E, L, z, hl, out⟩ => ⟨s, h, E, _, z, hl, fun v H1 x h1 t1 r1 rx ⟨ns, ex, q1⟩ => by
    subst ex
    cases rx with
    | xt hf hr =>
      have := hr.to_ints
      subst this
      exact ⟨_, ns, rfl, hf, s, h1, E, _, z.step t1 r1, q1, fun vs H2 ys h2 t2 r2 rxs ⟨k, ek, hk, q2⟩ => by
        subst ek
        cases rxs with
        | cons r t =>
          cases t
          cases r
          exact ⟨k, rfl, hk, t2.f _ _ hf, out _ H2 _ h2 (t1.trans t2) r2 (.int _) q2⟩⟩⟩
end
section
variable {s : LS} {h : LH} {E : LX} {L : LK} {lo la : LTE} {lr : LTA} {xs : List LV} {a : Addr} {ns : List Int} {k : Int}
theorem i_tix (q : lo s h E fun x h1 => ∃ ns : List Int, x = .xt (ns.map .int) ∧ lr s h1 E fun ys h2 => ∃ k, ys = [.int k] ∧ k ∈ ns ∧ L (.int (ns.idxOf k : Nat)) h2) : lTIxE lo lr s h E L := q
instance st_i_tix : Stp (lTIxE lo lr s h E L) (lo s h E fun x h1 => ∃ ns : List Int, x = .xt (ns.map .int) ∧ lr s h1 E fun ys h2 => ∃ k, ys = [.int k] ∧ k ∈ ns ∧ L (.int (ns.idxOf k : Nat)) h2) := ⟨i_tix⟩
theorem s_tix1 {Q : List Int → Prop} (q : Q ns) : ∃ ms : List Int, LV.xt (ns.map .int) = .xt (ms.map .int) ∧ Q ms := ⟨ns, rfl, q⟩
theorem s_tix2 (hk : k ∈ ns) (q : L (.int (ns.idxOf k : Nat)) h) : ∃ k', ([.int k] : List LV) = [.int k'] ∧ k' ∈ ns ∧ L (.int (ns.idxOf k' : Nat)) h := ⟨k, rfl, hk, q⟩
theorem i_wk (q : la s h E fun x h1 => L (wk x) h1) : lWk la s h E L := q
instance st_i_wk : Stp (lWk la s h E L) (la s h E fun x h1 => L (wk x) h1) := ⟨i_wk⟩
theorem i_tupleX (e : h a = some (.lst xs)) (q : L (.xt xs) h) : gTupleX [.ref a] h L := by
  unfold gTupleX
  dsimp only
  rw [e]
  exact q
end
end VL

set_option Elab.async false
set_option linter.all false
set_option maxRecDepth 100000
set_option maxHeartbeats 4000000
namespace VL
open PySem PySem.Spec PyProof.Rows L2
local macro_rules | `(tactic| walk_at "pk") => `(tactic| first
  | (with_reducible exact Pk.here)
  | ((with_reducible apply Pk.there); walk_at "pk"))
local macro_rules | `(tactic| walk_at "hk") => `(tactic| first
  | with_reducible assumption
  | ((with_reducible apply stars_get); (focus with_reducible assumption); walk_at "pk")
  | ((with_reducible apply bt_get1); (focus with_reducible assumption); walk_at "pk")
  | ((with_reducible apply bt_get2); (focus with_reducible assumption); walk_at "pk")
  | ((with_reducible apply dt_get1); (focus with_reducible assumption); walk_at "pk")
  | ((with_reducible apply dt_get2); (focus with_reducible assumption); walk_at "pk")
  | ((with_reducible apply dr_get1); (focus with_reducible assumption); walk_at "pk")
  | ((with_reducible apply dr_get2); (focus with_reducible assumption); walk_at "pk")
  | ((with_reducible apply dr_get3); (focus with_reducible assumption); walk_at "pk")
  | ((with_reducible apply dr_get4); (focus with_reducible assumption); walk_at "pk")
  | ((with_reducible apply md_get1); (focus with_reducible assumption); walk_at "pk")
  | ((with_reducible apply md_get2); (focus with_reducible assumption); walk_at "pk")
  | ((with_reducible apply md_get3); (focus with_reducible assumption); walk_at "pk")
  | ((with_reducible apply logc_lst); (focus with_reducible assumption); walk_at "pk")
  | ((with_reducible apply wd_get1); (focus with_reducible assumption); walk_at "pk")
  | ((with_reducible apply wd_get2); (focus with_reducible assumption); walk_at "pk")
  | ((with_reducible apply all0_get); (focus with_reducible assumption); (focus walk_at "pk"); with_reducible assumption)
  | ((with_reducible apply isq_get); (focus with_reducible assumption); walk_at "pk"))
local macro_rules | `(tactic| walk_at "sq") => `(tactic| first
  | with_reducible assumption
  | ((with_reducible apply isq_seq); (focus with_reducible assumption); walk_at "pk")
  | ((with_reducible apply logc_seq); (focus with_reducible assumption); walk_at "pk")
  | ((with_reducible apply all0_seq); (focus with_reducible assumption); (focus walk_at "pk"); with_reducible assumption)
  | ((with_reducible apply seqOf_lst); walk_at "hk")
  | exact rfl)
local macro_rules | `(tactic| walk_at "pe") => `(tactic| first
  | ((with_reducible apply ent_pk); walk_at "pk")
  | with_reducible exact ent_isqT
  | with_reducible exact ent_thgN
  | with_reducible exact ent_log0
  | ((with_reducible apply ent_logT); (focus with_reducible assumption))
  | ((with_reducible apply ent_logL); (focus with_reducible assumption); (focus walk_at "pk"))
  | ((with_reducible apply ent_logB); walk_at "pk")
  | ((with_reducible apply ent_isqL); walk_at "pk")
  | ((with_reducible apply ent_isqU); walk_at "pk")
  | ((with_reducible apply ent_mdk); walk_at "pk")
  | ((with_reducible apply ent_drk); walk_at "pk")
  | ((with_reducible apply ent_dr1); walk_at "pk")
  | ((with_reducible apply ent_dr2); walk_at "pk")
  | ((with_reducible apply ent_dr3); walk_at "pk")
  | ((with_reducible apply ent_dr4); walk_at "pk")
  | ((with_reducible apply ent_md1); walk_at "pk")
  | ((with_reducible apply ent_md3); walk_at "pk")
  | ((with_reducible apply ent_md2); walk_at "pk")
  | ((with_reducible apply ent_bt1); walk_at "pk")
  | ((with_reducible apply ent_bt2); walk_at "pk")
  | ((with_reducible apply ent_dt1); walk_at "pk")
  | ((with_reducible apply ent_dt2); walk_at "pk")
  | ((with_reducible apply Ent.drIn); dsimp only [Dm.fs]; walk_at "ent")
  | ((with_reducible apply Ent.mdIn); dsimp only [Dm.dd]; walk_at "ent")
  | ((with_reducible apply Ent.btIn); dsimp only [Bt.fs, cv]; walk_at "ent"))
local macro_rules | `(tactic| walk_at "ent") => `(tactic| first
  | with_reducible exact Ent.refl
  | with_reducible exact Ent.nil
  | ((with_reducible apply Ent.pk); (focus walk_at "pk"); walk_at "ent")
  | ((with_reducible apply Ent.box); (focus walk_at "pk"); (focus walk_at "sd"); walk_at "ent")
  | ((with_reducible apply Ent.pkE); (focus walk_at "pk"); (focus exact rfl); walk_at "ent")
  | ((with_reducible apply Ent.dtE); (focus walk_at "pk"); (focus exact rfl); walk_at "ent")
  | ((with_reducible apply Ent.btIn); dsimp only [Bt.fs, cv]; walk_at "ent")
  | ((with_reducible apply Ent.drIn); dsimp only [Dm.fs]; walk_at "ent")
  | ((with_reducible apply Ent.mdIn); dsimp only [Dm.dd]; walk_at "ent")
  | ((with_reducible apply Ent.wdIn); dsimp only [Wr.dd]; walk_at "ent")
  | ((with_reducible apply Ent.dtIn); dsimp only [dd, cv]; walk_at "ent")
  | ((with_reducible apply Ent.trans); (focus with_reducible exact ent_isqT); (with_reducible apply Ent.cons); walk_at "ent")
  | ((with_reducible apply Ent.trans); (focus ((with_reducible apply ent_logB); walk_at "pk")); (with_reducible apply Ent.cons); walk_at "ent")
  | ((with_reducible apply Ent.trans); (focus with_reducible exact ent_thgN); (with_reducible apply Ent.cons); walk_at "ent")
  | ((with_reducible apply Ent.trans); (focus ((with_reducible apply ent_isqL); walk_at "pk")); (with_reducible apply Ent.cons); walk_at "ent")
  | ((with_reducible apply Ent.trans); (focus ((with_reducible apply ent_isqU); walk_at "pk")); (with_reducible apply Ent.cons); walk_at "ent")
  | ((with_reducible apply Ent.drop); walk_at "ent"))
local macro_rules | `(tactic| walk_at "fr") => `(tactic| ((with_reducible apply fr_of); (focus with_reducible assumption); walk_at "ent"))
local macro_rules | `(tactic| walk_at "tg") => `(tactic| first
  | with_reducible assumption
  | ((with_reducible apply thgs_get); (focus with_reducible assumption); (focus walk_at "pk"); with_reducible assumption))
local macro_rules | `(tactic| walk_at "sd") => `(tactic| first
  | with_reducible assumption
  | omega
  | decide
  | (unfold CDiv; omega)
  | (unfold CPow; omega)
  | (split <;> omega)
  | (simp only [List.length_map]; first | omega | (split <;> omega))
  | (simp only [dd, Dm.dd, Dm.fs, Bt.fs, Hm.fs, Hm.dd, dmap_length, List.length_cons, List.length_nil, List.length_append, List.length_set, List.length_map, List.length_reverse, List.length_replicate]; omega))
local macro_rules | `(tactic| walk_at "app") => `(tactic| first | (simp only [List.cons_append, List.nil_append]; done) | (simp only [List.cons_append, List.nil_append]; exact rfl) | exact rfl)
local macro_rules | `(tactic| walk_at "dp") => `(tactic| first | exact hm_shut | exact dpair_put | exact md_near | exact md_far | exact md_most | exact md_closed | exact dent_putN | exact dent_putW | exact dent_putE | exact dput_count | exact dput_bound | exact rfl)
local macro_rules | `(tactic| walk_at "pl") => `(tactic| first
  | with_reducible assumption
  | exact Pl.int | exact Pl.str | exact Pl.non | exact Pl.cv _ | exact Pl.press | exact Pl.t0 | exact Pl.due | exact Pl.wv | exact Pl.optI
  | (apply Pl.two <;> walk_at "pl") | (apply Pl.three <;> walk_at "pl")
  | (apply Pl.ints; walk_at "sd"))
local macro_rules | `(tactic| walk_at "pq") => `(tactic| first
  | with_reducible assumption
  | exact Pq.int | exact Pq.non | exact Pq.t0 | exact Pq.wv | exact Pq.optI | exact Pq.ints | exact Pq.str (Low.ok (by with_reducible assumption)) | exact known_pq (by with_reducible assumption)
  | (apply Pq.two <;> walk_at "pq") | (apply Pq.three <;> walk_at "pq") | (apply Pq.four <;> walk_at "pq"))
local macro_rules | `(tactic| walk_at "dg1") => `(tactic| first
  | (with_reducible exact dget_hit)
  | ((with_reducible apply dget_miss); (focus decide); walk_at "dg1"))
local macro_rules | `(tactic| walk_at "dg") => `(tactic| first
  | walk_at "dg1"
  | (dsimp only [Dm.dd, dd, Wr.dd, Hm.dd]; walk_at "dg1")
  | exact rfl)
local macro_rules | `(tactic| walk_at "pr") => `(tactic| first | walk_at "sd" | walk_at "sq" | with_reducible exact Sm.refl | with_reducible exact told_int | (dsimp only at *; first | omega | (simp only [List.length_map] at *; omega)))
local macro_rules | `(tactic| walk_at "lt") => `(tactic| first | exact rfl | (exact lty_lst (by walk_at "hk")) | (exact lty_dic (by walk_at "hk")))
local macro_rules | `(tactic| walk_at "fput") => `(tactic| first | (simp only [fput, Dm.fs, Bt.fs, Hm.fs, reduceCtorEq, ↓reduceIte]; done) | (simp only [fput, Dm.fs, Bt.fs, Hm.fs, reduceCtorEq, ↓reduceIte]; exact rfl) | exact rfl)
local macro_rules | `(tactic| walk_at "slot") => `(tactic| first | (simp only [List.set_cons_zero, List.set_cons_succ]; done) | (simp only [List.set_cons_zero, List.set_cons_succ]; exact rfl) | exact rfl)
set_option hygiene false in
local macro_rules | `(tactic| walk_at "dn") => `(tactic| first
  | ((with_reducible show Dn (L _) _); (with_reducible apply all0_dn); (focus with_reducible assumption); (focus walk_at "pk"); with_reducible assumption)
  | ((fail_if_success (with_reducible show Dn (L _) _)); with_reducible refine Dn.mk ?_))
set_option hygiene false in
local macro_rules | `(tactic| walk_at "g1") => `(tactic| first
  | with_reducible refine i_chnR ?_
  | with_reducible refine i_chnD (fun hc => ?_) (fun hc => ?_)
  | with_reducible refine i_chnT ?_
  | with_reducible refine i_chnNF ?_
  | with_reducible refine i_chnNT ?_
  | with_reducible refine i_chnF ?_
  | with_reducible refine i_chnN (fun hc => ?_) (fun hc => ?_)
  | with_reducible refine k_true ?_
  | with_reducible refine k_false ?_
  | with_reducible refine k_decR ?_
  | with_reducible refine k_ndecR ?_
  | with_reducible refine k_dec (fun hc => ?_) (fun hc => ?_)
  | with_reducible refine k_nT ?_
  | with_reducible refine k_nnT ?_
  | with_reducible refine k_nnF ?_
  | with_reducible refine k_nF ?_
  | with_reducible refine k_nnd (fun hc => ?_) (fun hc => ?_)
  | with_reducible refine k_ndec (fun hc => ?_) (fun hc => ?_))
set_option hygiene false in
local macro_rules | `(tactic| walk_at "g2") => `(tactic| first
  | with_reducible refine i_eq_int ?_
  | with_reducible refine i_eq_non ?_
  | with_reducible refine i_eq_cvI ?_
  | with_reducible refine i_notnon_cv ?_
  | ((with_reducible apply i_eq_strT); (focus with_reducible exact rfl))
  | ((with_reducible apply i_eq_strF); (focus decide))
  | with_reducible refine i_eq_str ?_
  | with_reducible refine i_eq_wv ?_
  | ((with_reducible apply i_ne_pl); (focus walk_at "pq"))
  | ((with_reducible apply i_eq_plT); (focus walk_at "pq"))
  | with_reducible refine i_eq_bl ?_
  | with_reducible refine i_ne_int ?_
  | with_reducible refine i_ne_str ?_
  | with_reducible refine i_ne_bl ?_
  | with_reducible refine i_is_nnI ?_
  | with_reducible refine i_is_nnN ?_
  | with_reducible refine i_is_blI ?_
  | with_reducible refine i_is_blN ?_
  | ((with_reducible apply i_is_nI); rotate_left; (focus exact rfl))
  | ((with_reducible apply i_is_nN); rotate_left; (focus exact rfl))
  | ((with_reducible refine i_eq_pqE (by walk_at "pq") (by walk_at "pq") (fun hc => ?_) (fun hc => ?_)) <;> (try simp only [LV.tup.injEq, LV.str.injEq, LV.int.injEq, List.cons.injEq, and_true, ne_eq, reduceCtorEq, and_false, false_and, not_false_eq_true] at hc))
  | ((with_reducible refine i_eq_pq (by walk_at "pq") (by walk_at "pq") (fun hc => ?_) (fun hc => ?_)) <;> (try simp only [LV.tup.injEq, LV.str.injEq, LV.int.injEq, List.cons.injEq, and_true, ne_eq, reduceCtorEq, and_false, false_and, not_false_eq_true] at hc)))
set_option hygiene false in
local macro_rules | `(tactic| walk_at "g3") => `(tactic| first
  | ((with_reducible apply s_add_tup); (focus walk_at "sd"); (focus walk_at "app"))
  | ((with_reducible apply i_intC); (focus walk_at "sd"))
  | ((with_reducible apply i_mul); (focus walk_at "sd"))
  | ((with_reducible apply s_setD); (focus with_reducible assumption); (focus walk_at "pe"); (focus exact rfl); (focus walk_at "sd"); (focus walk_at "dp"); intro h' H)
  | ((with_reducible apply i_gtup); (focus exact rfl))
  | ((with_reducible apply s_setLN); (focus with_reducible assumption); (focus walk_at "pe"); (focus walk_at "sd"); (focus walk_at "slot"); intro h' H)
  | ((with_reducible apply i_ix_tupN); (focus first | with_reducible assumption | exact rfl))
  | ((with_reducible apply i_ix_ent); (focus walk_at "hk"); (focus with_reducible assumption))
  | ((with_reducible apply i_ix_pair); (focus walk_at "hk"); (focus with_reducible assumption))
  | ((with_reducible apply i_ixF); (focus walk_at "hk"); (focus with_reducible assumption))
  | ((with_reducible apply i_inS); (focus walk_at "hk"); (focus with_reducible assumption))
  | ((with_reducible apply i_inN); (focus walk_at "hk"); (focus with_reducible assumption))
  | ((with_reducible apply i_notinS); (focus walk_at "hk"); (focus with_reducible assumption))
  | ((with_reducible apply i_notinN); (focus walk_at "hk"); (focus with_reducible assumption))
  | ((with_reducible apply i_in_tupT); (focus exact rfl); (focus exact rfl); (focus decide))
  | ((with_reducible apply i_in_tupF); (focus exact rfl); (focus exact rfl); (focus decide))
  | ((with_reducible apply i_in_S); (focus walk_at "hk"); (focus with_reducible assumption))
  | ((with_reducible apply i_in_N); (focus walk_at "hk"); (focus with_reducible assumption))
  | ((with_reducible apply i_notin_S); (focus walk_at "hk"); (focus with_reducible assumption))
  | ((with_reducible apply i_notin_N); (focus walk_at "hk"); (focus with_reducible assumption))
  | ((with_reducible apply i_ix_keys); (focus walk_at "hk"); (focus walk_at "sd"); (focus walk_at "sd"))
  | ((with_reducible apply i_ix_last); (focus walk_at "hk"))
  | ((with_reducible apply i_ix_lstN); (focus walk_at "hk"); (focus first | with_reducible assumption | exact rfl))
  | ((with_reducible apply i_ix_rlN); (focus first | with_reducible assumption | exact rfl))
  | ((with_reducible apply i_ix_tupM); (focus first | with_reducible assumption | exact rfl))
  | ((with_reducible apply i_ix_lstM); (focus walk_at "hk"); (focus first | with_reducible assumption | exact rfl))
  | ((with_reducible apply s_sl_lst); (focus walk_at "hk"))
  | ((with_reducible apply i_len_lst); (focus walk_at "hk"))
  | ((with_reducible apply i_len_dent); (focus walk_at "hk"))
  | ((with_reducible apply i_len_dic); (focus walk_at "hk"))
  | ((with_reducible apply s_add_lst); (focus walk_at "hk"); (focus walk_at "hk"); (focus walk_at "sd"); (focus walk_at "app"))
  | ((with_reducible apply i_ix_dic); (focus walk_at "hk"); (focus exact rfl); (focus walk_at "dg"))
  | ((with_reducible apply i_gtupL); (focus walk_at "hk"); (focus exact rfl))
  | ((with_reducible apply s_new); (focus with_reducible assumption); intro p h' H)
  | ((with_reducible apply i_len_nm); (focus with_reducible assumption))
  | ((with_reducible apply i_len_seq); (focus walk_at "sq")))
set_option hygiene false in
local macro_rules | `(tactic| walk_at "g4") => `(tactic| first
  | ((with_reducible apply i_leI2); (focus walk_at "sd"))
  | ((with_reducible apply i_leN); (focus walk_at "sd"))
  | ((with_reducible apply i_leI); (focus walk_at "sd"))
  | ((with_reducible apply i_leI4); (focus walk_at "sd"))
  | ((with_reducible apply i_fldG); (focus walk_at "hk"); (focus exact rfl))
  | ((with_reducible apply s_fldP); (focus with_reducible assumption); (focus walk_at "pe"); (focus walk_at "sd"); (focus walk_at "fput"); intro h' H)
  | ((with_reducible apply i_fldA1); (focus walk_at "hk"); (focus exact rfl))
  | ((with_reducible apply s_fldB); (focus with_reducible assumption); (focus walk_at "pe"); (focus walk_at "sd"); (focus walk_at "fput"); intro h' H)
  | ((with_reducible apply i_methG); (focus walk_at "hk"))
  | ((with_reducible apply i_methH); (focus with_reducible assumption); (focus walk_at "pk"))
  | ((with_reducible apply i_bmG); (focus first | exact rfl | (exact i_ty_lst (by walk_at "hk")) | (exact i_ty_dic (by walk_at "hk"))))
  | ((with_reducible apply s_append); (focus with_reducible assumption); (focus walk_at "pe"); (focus walk_at "sd"); (focus walk_at "app"); intro h' H)
  | ((with_reducible apply s_extend); (focus with_reducible assumption); (focus walk_at "pe"); (focus walk_at "hk"); (focus walk_at "sd"); (focus walk_at "app"); intro h' H)
  | ((with_reducible apply s_reverse); (focus with_reducible assumption); (focus walk_at "pe"); intro h' H)
  | ((with_reducible apply s_clear); (focus with_reducible assumption); (focus walk_at "pe"); intro h' H))
set_option hygiene false in
local macro_rules | `(tactic| walk_at "g5") => `(tactic| first
  | with_reducible refine i_rt ?_
  | with_reducible refine i_nxE ?_
  | ((with_reducible apply i_parG3); (focus walk_at "slot"))
  | ((with_reducible apply i_parG); (focus walk_at "slot"))
  | ((with_reducible apply s_disp); (focus with_reducible assumption); intro dp h' H)
  | ((with_reducible apply s_dispE); (focus with_reducible assumption); (focus walk_at "pk"); (focus exact rfl); (focus walk_at "sd"); (focus exact rfl); intro h' H)
  | ((with_reducible apply i_dicA); (focus walk_at "hk"))
  | ((with_reducible apply s_dpopE); (focus with_reducible assumption); (focus walk_at "pe"); (focus with_reducible assumption); intro h' H)
  | ((with_reducible apply s_enL); (focus walk_at "hk"))
  | ((with_reducible apply i_zipL); (focus walk_at "hk"); (focus walk_at "hk"))
  | ((with_reducible apply i_divmod); (focus walk_at "sd"))
  | ((with_reducible apply i_isiK); (focus walk_at "lt"); (focus decide); (focus first | (show _ = true; decide) | (show _ = false; decide)))
  | ((with_reducible apply i_isiNK); (focus walk_at "lt"); (focus exact rfl); (focus decide); (focus first | (show _ = true; decide) | (show _ = false; decide)))
  | ((with_reducible apply s_list_lst); (focus walk_at "hk"))
  | ((with_reducible apply s_listD); (focus walk_at "hk"))
  | ((with_reducible apply s_stepL); (focus walk_at "hk"); (focus walk_at "sd"))
  | ((with_reducible apply s_revL); (focus walk_at "hk"))
  | ((with_reducible apply i_tuple_lst); (focus walk_at "hk"))
  | ((with_reducible apply s_makeG); (focus with_reducible assumption); intro ob h' H)
  | ((with_reducible apply i_liL); (focus walk_at "hk"))
  | ((with_reducible apply s_dictD); (focus walk_at "hk"))
  | ((with_reducible apply s_sorted_i); (focus walk_at "hk"); (focus walk_at "sd"))
  | ((with_reducible apply s_sorted_d); (focus walk_at "hk"); (focus exact dent_keys); (focus walk_at "sd"))
  | ((with_reducible apply s_sorted_s); (focus walk_at "hk"); (focus walk_at "sd"))
  | with_reducible refine i_exE ?_
  | ((with_reducible apply i_cat); (focus decide); (focus decide))
  | ((with_reducible apply i_catN0); (focus decide); (focus decide); (focus walk_at "slot"))
  | ((with_reducible apply i_catN1); (focus decide); (focus decide); (focus walk_at "slot"))
  | ((with_reducible apply i_clr); (focus walk_at "slot"))
  | ((with_reducible apply i_isx1 (b := true)); (focus decide); (focus decide); (focus decide))
  | ((with_reducible apply i_isx1 (b := false)); (focus decide); (focus decide); (focus decide))
  | ((with_reducible apply i_isxV); (focus decide))
  | ((with_reducible apply i_isxT (b := true)); (focus exact rfl); (focus decide); (focus decide); (focus decide))
  | ((with_reducible apply i_isxT (b := false)); (focus exact rfl); (focus decide); (focus decide); (focus decide))
  | ((with_reducible apply i_xfG); (focus decide))
  | ((with_reducible apply i_cnt1); (focus walk_at "hk"); (focus exact rfl); (focus exact rfl); (focus first | (show _ = (1 : Int); exact rfl) | (show _ = (0 : Int); exact rfl) | (show _ = (2 : Int); exact rfl)))
  | ((with_reducible apply i_idx1); (focus walk_at "hk"); (focus exact rfl); (focus exact rfl); (focus first | (show _ = some (0 : Int); exact rfl) | (show _ = some (1 : Int); exact rfl) | (show _ = some (2 : Int); exact rfl) | (show _ = some (3 : Int); exact rfl) | (show _ = some (4 : Int); exact rfl) | (show _ = some (5 : Int); exact rfl) | (show _ = some (6 : Int); exact rfl) | (show _ = some (7 : Int); exact rfl)))
  | walk_at "dn"
  | ((with_reducible apply i_kgetS); (focus exact rfl))
  | ((with_reducible apply s_list_seq); (focus walk_at "sq"))
  | ((with_reducible apply i_tuple_seq); (focus walk_at "sq"))
  | ((with_reducible apply i_dget_entS); (focus walk_at "hk"); (focus with_reducible assumption))
  | ((with_reducible apply i_dget_entN); (focus walk_at "hk"); (focus with_reducible assumption))
  | ((with_reducible apply i_dgetG); (focus walk_at "hk"); (focus exact rfl); (focus exact rfl)))
local macro_rules | `(tactic| walk_at "vc") => `(tactic| fail)
local macro_rules | `(tactic| walk_at "vw") => `(tactic| first
  | ((with_reducible refine G1.go ?_); walk_at "g1")
  | ((with_reducible refine G2.go ?_); walk_at "g2")
  | ((with_reducible refine G3.go ?_); walk_at "g3")
  | ((with_reducible refine G4.go ?_); walk_at "g4")
  | walk_at "vc"
  | walk_at "g5")
local macro_rules | `(tactic| walk_at "vv") => `(tactic| first
  | with_reducible refine Stp.go ?_
  | ((with_reducible apply i_var); (focus exact rfl))
  | ((with_reducible apply i_name); (focus walk_at "slot"))
  | walk_at "vw")
local macro_rules | `(tactic| walk_at "vx") => `(tactic| first | with_reducible refine i_seq ?_ | walk_at "vv")
local macro_rules | `(tactic| walk_at "go") => `(tactic| repeat' walk_at "vx")
local macro_rules | `(tactic| walk_at "st") => `(tactic| ((repeat' walk_at "vv"); (try with_reducible refine i_seq ?_); repeat' walk_at "vv"))
set_option hygiene false in
local macro_rules | `(tactic| walk_at "q") => `(tactic| (refine Dn.mk ?_; apply q <;> first | walk_at "fr" | walk_at "sd"))
def t_l_folded_2 : LTS :=
  (lSeq (lAsg (lCB gList (lCons (lSl (lVar 0) lNoP (lPart (lVar 1))) lNil)) (lgName 2))
  (lSeq (lFor (liEnum2 (lSl (lVar 0) (lPart (lVar 1)) (lPart (lC (.int 63))))) (lgTup 2 (lgCons (lgName 3) (lgCons (lgName 4) lgNil))) (lAsg (lOp gAdd (lOp gIx (lVar 2) (lOp gMod (lVar 3) (lVar 1))) (lOp gMul (lVar 4) (lOp gAdd (lVar 3) (lC (.int 2))))) (lgSub (lVar 2) (lOp gMod (lVar 3) (lVar 1)))))
  (lRet (lVar 2))))
def sp_l_folded_2 : LSp := fun xs h E L => ∃ (ns : List Int) (m : Int) (Fr : List HP), xs = [.rl (ns.map .int), .int m] ∧ (1 ≤ m ∧ m ≤ 8) ∧ (ns.length ≤ 63) ∧ stars (Fr) h ∧ (∀ (a : Addr) (ms : List Int) h', ((ms.length : Int) ≤ m) → stars ((pts a (.lst (ms.map .int))) :: Fr) h' → L (.ref a) h')
theorem rd_l_folded_2 : ∀ xs h E L, sp_l_folded_2 xs h E L → xs.length = 2 ∧ t_l_folded_2 (fnE E L) (lstart 5 xs) h := by
  rintro _ h E L ⟨ns, m, Fr, rfl, hm, hl, H, q⟩
  refine ⟨rfl, ?_⟩
  show t_l_folded_2 (fnE E L) [some (.rl (ns.map .int)), some (.int m), none, none, none] h
  refine fn_go ?_
  unfold t_l_folded_2
  obtain ⟨mk, rfl⟩ : ∃ k : Nat, m = k := ⟨m.toNat, by omega⟩
  obtain ⟨m1, e1, l1⟩ := cutL_ints2 ns none (some (mk : Int))
  obtain ⟨m2, e2, l2⟩ := cutL_ints2 ns (some (mk : Int)) (some 63)
  have s63 : HT.sIx ns.length ns.length (some 63) = min 63 ns.length := HT.sIx_nat _ _ 63
  have s8 : ∀ a, HT.sIx ns.length a (some (mk : Int)) = min mk ns.length := fun a => HT.sIx_nat _ _ mk
  rw [s8, HT.sIx_none] at l1
  rw [s8, s63] at l2
  walk_at "st"
  rw [e1] at H
  obtain ⟨P1, rfl⟩ : ∃ P1, P1 = p := ⟨_, rfl⟩
  walk_at "st"
  rw [e2] at H
  refine s_forE (xs := m2.map .int) (by walk_at "hk") (fun i s' h' => (∃ w1 w2, s' = [some (.rl (ns.map .int)), some (.int mk), some (.ref P1), w1, w2]) ∧ ∃ ms : List Int, ms.length = m1.length ∧ stars (pts P1 (.lst (ms.map .int)) :: pts p (.lst (m2.map .int)) :: Fr) h') ?_ ⟨⟨_, _, rfl⟩, m1, rfl, by walk_at "fr"⟩ ?_ ?_
  · rintro i s' h' ⟨_, ms, _, H⟩
    walk_at "hk"
  · rintro s' h' ⟨⟨w1, w2, rfl⟩, ms, hms, H⟩
    walk_at "go"
    exact .mk (q P1 ms _ (by omega) (by walk_at "fr"))
  · rintro i y s' h' hy ⟨⟨w1, w2, rfl⟩, ms, hms, H⟩
    obtain ⟨z, hz, rfl⟩ := map_get hy
    have hi : i < m2.length := (List.getElem?_eq_some_iff.mp hz).1
    have k0 : (0 : Int) ≤ (i : Int) % mk := Int.emod_nonneg _ (by omega)
    have k1 : (i : Int) % mk < (ms.length : Int) := by
      have := Int.emod_lt_of_pos (i : Int) (b := (mk : Int)) (by omega)
      omega
    obtain ⟨y9, hy9⟩ := ints_get k0 k1
    walk_at "st"
    refine i_ix_lst (by walk_at "hk") hy9 ?_
    repeat' walk_at "vv"
    refine s_setL H (by walk_at "pe") (ixN_of k0 (by rw [List.length_map]; exact k1)) fun h' H => ?_
    rw [set_ints] at H
    refine ⟨⟨_, _, rfl⟩, _, ?_, by walk_at "fr"⟩
    rw [List.length_set]; exact hms
theorem i_l_folded_2 {ns : List Int} {m : Int} {h : LH} {E : LX} {L : LK} {Fr : List HP} (H : stars Fr h)  (hm : 1 ≤ m ∧ m ≤ 8) (hl : ns.length ≤ 63) (q : ∀ (a : Addr) (ms : List Int) h', ((ms.length : Int) ≤ m) → stars ((pts a (.lst (ms.map .int))) :: Fr) h' → L (.ref a) h') : sp_l_folded_2 [.rl (ns.map .int), .int m] h E L := ⟨_, _, Fr, rfl, hm, hl, H, q⟩
set_option hygiene false in
local macro_rules | `(tactic| walk_at "vc") => `(tactic| ((with_reducible apply i_l_folded_2); (focus with_reducible assumption); (focus walk_at "pr"); (focus walk_at "pr"); intro a ms h' hml H))
def t_l_box_2 : LTS :=
  (lSeq (lAsg (lC (.int 0)) (lgName 2))
  (lSeq (lIfS (lTest (lOp gLt (lVar 1) (lCB gLen (lCons (lVar 0) lNil)))) (lAsg (lOp gIx (lVar 0) (lVar 1)) (lgName 2)) lNx)
  (lRet (lLst (lCons (lOp gMul (lCB gAbs (lCons (lVar 2) lNil)) (lCB gInt1 (lCons (lOp gGe (lCB gAbs (lCons (lVar 2) lNil)) (lOp gPow (lC (.int 10)) (lC (.int 18)))) lNil))) (lCons (lOp gMod (lOp gAdd (lVar 2) (lOp gMul (lC (.int 7919)) (lVar 1))) (lC (.int 2147483647))) (lCons (lC (.int 0)) lNil)))))))
def sp_l_box_2 : LSp := fun xs h E L => ∃ (a : Addr) (ms : List Int) (k : Int) (Fr : List HP), xs = [.ref a, .int k] ∧ (0 ≤ k) ∧ (ms.length ≤ 1000) ∧ stars ((pts a (.lst (ms.map .int))) :: Fr) h ∧ (∀ (b : Addr) h', stars ((box b 0) :: (pts a (.lst (ms.map .int))) :: Fr) h' → L (.ref b) h')
theorem rd_l_box_2 : ∀ xs h E L, sp_l_box_2 xs h E L → xs.length = 2 ∧ t_l_box_2 (fnE E L) (lstart 3 xs) h := by
  rintro _ h E L ⟨a, ms, k, Fr, rfl, hk0, hml, H, q⟩
  refine ⟨rfl, ?_⟩
  show t_l_box_2 (fnE E L) [some (.ref a), some (.int k), none] h
  refine fn_go ?_
  unfold t_l_box_2
  walk_at "st"
  refine seq_cut (fun s' h' => stars (pts a (.lst (ms.map .int)) :: Fr) h' ∧ ∃ cell : Int, s' = [some (.ref a), some (.int k), some (.int cell)]) ?_ ?_
  · rintro s' h' ⟨H, cell, rfl⟩
    walk_at "go"
    refine .mk (q p _ (box_in ?_ (by walk_at "fr")))
    refine ⟨?_, ?_, ?_, by omega, by omega⟩
    · refine Int.mul_nonneg ?_ ?_ <;> split <;> omega
    · exact Int.emod_nonneg _ (by omega)
    · have := Int.emod_lt_of_pos (cell + 7919 * k) (b := 2147483647) (by omega)
      omega
  · intro N hN
    walk_at "go"
    · rw [List.length_map] at hc
      have hz : k.toNat < ms.length := by omega
      refine i_ix_lst (v := .int ms[k.toNat]) (by walk_at "hk") ?_ ?_
      · rw [atI_nat hk0 (by rw [List.length_map]; exact hc), List.getElem?_map, List.getElem?_eq_getElem hz]
        rfl
      · walk_at "go"
        exact hN _ _ ⟨H, _, rfl⟩
    · exact hN _ _ ⟨H, _, rfl⟩
theorem i_l_box_2 {a : Addr} {ms : List Int} {k : Int} {h : LH} {E : LX} {L : LK} {Cs Fr : List HP} (H : stars Cs h) (k0 : Ent Cs ((pts a (.lst (ms.map .int))) :: Fr)) (hk0 : 0 ≤ k) (hml : ms.length ≤ 1000) (q : ∀ (b : Addr) h', stars ((box b 0) :: (pts a (.lst (ms.map .int))) :: Fr) h' → L (.ref b) h') : sp_l_box_2 [.ref a, .int k] h E L := ⟨_, _, _, Fr, rfl, hk0, hml, ((Ent.trans k0 (Ent.cons (Ent.refl)) : Ent _ _) _ H), q⟩
set_option hygiene false in
local macro_rules | `(tactic| walk_at "vc") => `(tactic| ((with_reducible apply i_l_box_2); (focus with_reducible assumption); (focus walk_at "pe"); (focus walk_at "pr"); (focus walk_at "pr"); intro b h' H))
def t_l_take_2 : LTS :=
  (lSeq (lIfS (lTest (lOp gGt (lOp gIx (lVar 0) (lC (.int 0))) (lC (.int 0)))) (lSeq (lAsg (lCB gDivmod (lCons (lOp gIx (lVar 0) (lC (.int 0))) (lCons (lVar 1) lNil))) (lgTup 2 (lgCons (lgSub (lVar 0) (lC (.int 0))) (lgCons (lgName 2) lgNil))))
  (lRet (lVar 2))) lNx)
  (lSeq (lAsg (lOp gAdd (lOp gIx (lVar 0) (lC (.int 2))) (lC (.int 1))) (lgSub (lVar 0) (lC (.int 2))))
  (lSeq (lAsg (lOp gMod (lOp gMul (lOp gAdd (lOp gIx (lVar 0) (lC (.int 1))) (lOp gMul (lC (.int 39373)) (lOp gIx (lVar 0) (lC (.int 2))))) (lC (.int 48271))) (lC (.int 2147483647))) (lgName 3))
  (lRet (lOp gMod (lOp gFdiv (lOp gMod (lOp gMul (lVar 3) (lOp gAdd (lVar 3) (lC (.int 39373)))) (lC (.int 2147483629))) (lC (.int 64))) (lVar 1))))))
def sp_l_take_2 : LSp := fun xs h E L => ∃ (b : Addr) (m n : Int) (Fr : List HP), xs = [.ref b, .int m] ∧ (1 ≤ m ∧ m < 1073741824) ∧ (n < 1000000000) ∧ stars ((box b n) :: Fr) h ∧ (∀ (d : Int) h', (0 ≤ d) → (d < m) → stars ((box b (n + 1)) :: Fr) h' → L (.int d) h')
theorem rd_l_take_2 : ∀ xs h E L, sp_l_take_2 xs h E L → xs.length = 2 ∧ t_l_take_2 (fnE E L) (lstart 4 xs) h := by
  rintro _ h E L ⟨b, m, n, Fr, rfl, hm, hn, H, q⟩
  refine ⟨rfl, ?_⟩
  show t_l_take_2 (fnE E L) [some (.ref b), some (.int m), none, none] h
  refine fn_go ?_
  unfold t_l_take_2
  obtain ⟨x, y, c, ⟨hx, hy, hy2, hc0, hc2⟩, H⟩ := box_out H
  walk_at "go"
  · exact .mk (q _ _ (Int.emod_nonneg _ (by omega)) (Int.emod_lt_of_pos _ (by omega)) (box_in (x := x / m) (y := y) (c := c) ⟨Int.ediv_nonneg hx (by omega), hy, hy2, hc0, by omega⟩ (by walk_at "fr")))
  · exact .mk (q _ _ (Int.emod_nonneg _ (by omega)) (Int.emod_lt_of_pos _ (by omega)) (box_in (x := x) (y := y) (c := c + 1) ⟨hx, hy, hy2, by omega, by omega⟩ (by walk_at "fr")))
theorem i_l_take_2 {b : Addr} {m n : Int} {h : LH} {E : LX} {L : LK} {Cs Fr : List HP} (H : stars Cs h) (k0 : Ent Cs ((box b n) :: Fr)) (hm : 1 ≤ m ∧ m < 1073741824) (hn : n < 1000000000) (q : ∀ (d : Int) h', (0 ≤ d) → (d < m) → stars ((box b (n + 1)) :: Fr) h' → L (.int d) h') : sp_l_take_2 [.ref b, .int m] h E L := ⟨_, _, _, Fr, rfl, hm, hn, ((Ent.trans k0 (Ent.cons (Ent.refl)) : Ent _ _) _ H), q⟩
set_option hygiene false in
local macro_rules | `(tactic| walk_at "vc") => `(tactic| ((with_reducible apply i_l_take_2); (focus with_reducible assumption); (focus walk_at "pe"); (focus walk_at "pr"); (focus walk_at "pr"); intro d h' hd0 hd1 H))
def t_l_table_4 (c0 : LSp) : LTS :=
  (lSeq (lAsg (lListRg1 (lC (.int 16))) (lgName 1))
  (lSeq (lFor (liRng1 (lCons (lC (.int 15)) lNil)) (lgName 2) (lSeq (lAsg (lOp gAdd (lVar 2) (lCall c0 (lCons (lVar 0) (lCons (lOp gSub (lC (.int 16)) (lVar 2)) lNil)))) (lgName 3))
  (lAsg (lTup (lCons (lOp gIx (lVar 1) (lVar 3)) (lCons (lOp gIx (lVar 1) (lVar 2)) lNil))) (lgTup 2 (lgCons (lgSub (lVar 1) (lVar 2)) (lgCons (lgSub (lVar 1) (lVar 3)) lgNil))))))
  (lRet (lCB gTupleX (lCons (lVar 1) lNil)))))
def sp_l_table_4 : LSp := fun xs h E L => ∃ (b : Addr) (n : Int) (Fr : List HP), xs = [.ref b] ∧ (n < 900000000) ∧ stars ((box b n) :: Fr) h ∧ (∀ (tab : List Int) h', (tab.Perm (rgL 16)) → stars ((box b (n + 16)) :: Fr) h' → L (.xt (tab.map .int)) h')
theorem rd_l_table_4 : ∀ xs h E L, sp_l_table_4 xs h E L → xs.length = 1 ∧ t_l_table_4 sp_l_take_2 (fnE E L) (lstart 4 xs) h := by
  rintro _ h E L ⟨b, n, Fr, rfl, hn, H, q⟩
  refine ⟨rfl, ?_⟩
  show t_l_table_4 sp_l_take_2 (fnE E L) [some (.ref b), none, none, none] h
  refine fn_go ?_
  unfold t_l_table_4
  walk_at "st"
  walk_at "st"
  refine for_rng (fun i s' h' => (∃ w1 w2, s' = [some (.ref b), some (.ref p), w1, w2]) ∧ ∃ m : List Int, m.Perm (rgL 16) ∧ stars (pts p (.lst (m.map .int)) :: box b (n + i) :: Fr) h') ⟨⟨_, _, rfl⟩, rgL (Int.toNat 16), .refl _, by walk_at "fr"⟩ ?_ ?_
  · rintro s' h' ⟨⟨w1, w2, rfl⟩, m, hp, H⟩
    have e15 : Int.toNat 15 = 15 := rfl
    walk_at "go"
    refine i_tupleX (by walk_at "hk") ?_
    walk_at "go"
    exact .mk (q m _ hp (by walk_at "fr"))
  · rintro i s' h' hi ⟨⟨w1, w2, rfl⟩, m, hp, H⟩
    have hi : i < 15 := hi
    have ml : m.length = 16 := hp.length_eq
    walk_at "st"
    have g1 : ∀ k : Int, (h0 : 0 ≤ k) → (h1 : k < m.length) → atI (m.map LV.int) k = some (.int (m[k.toNat]'(by omega))) := fun k h0 h1 => by
      rw [atI_nat h0 (by rw [List.length_map]; exact h1), List.getElem?_map, List.getElem?_eq_getElem (by omega)]
      rfl
    refine i_ix_lst (by walk_at "hk") (g1 _ (by omega) (by omega)) ?_
    repeat' walk_at "vv"
    refine i_ix_lst (by walk_at "hk") (g1 _ (by omega) (by omega)) ?_
    repeat' walk_at "vv"
    refine s_setL H (by walk_at "pe") (ixN_of (by omega) (by rw [List.length_map]; omega)) fun h' H => ?_
    rw [set_ints] at H
    repeat' walk_at "vv"
    refine s_setL H (by walk_at "pe") (ixN_of (by omega) (by rw [List.length_map, List.length_set]; omega)) fun h' H => ?_
    rw [set_ints] at H
    repeat' walk_at "vv"
    refine ⟨⟨_, _, rfl⟩, _, ?_, by walk_at "fr"⟩
    exact (List.set_set_perm (as := m) (by omega) (by omega)).trans hp
theorem i_l_table_4 {b : Addr} {n : Int} {h : LH} {E : LX} {L : LK} {Cs Fr : List HP} (H : stars Cs h) (k0 : Ent Cs ((box b n) :: Fr)) (hn : n < 900000000) (q : ∀ (tab : List Int) h', (tab.Perm (rgL 16)) → stars ((box b (n + 16)) :: Fr) h' → L (.xt (tab.map .int)) h') : sp_l_table_4 [.ref b] h E L := ⟨_, _, Fr, rfl, hn, ((Ent.trans k0 (Ent.cons (Ent.refl)) : Ent _ _) _ H), q⟩
set_option hygiene false in
local macro_rules | `(tactic| walk_at "vc") => `(tactic| ((with_reducible apply i_l_table_4); (focus with_reducible assumption); (focus walk_at "pe"); (focus walk_at "pr"); intro tab h' htab H))
def t_back_table_2 : LTS :=
  (lSeq (lAsg (lOp gMul (lLst (lCons (lC (.int 0)) lNil)) (lC (.int 16))) (lgName 1))
  (lSeq (lFor (liEnum2 (lVar 0)) (lgTup 2 (lgCons (lgName 2) (lgCons (lgName 3) lgNil))) (lAsg (lVar 2) (lgSub (lVar 1) (lVar 3))))
  (lRet (lCB gTuple (lCons (lVar 1) lNil)))))
def sp_back_table_2 : LSp := fun xs h _ L => ∃ (xt : LV) (tab : List Int), xs = [xt] ∧ (seqOf h xt = some (tab.map .int)) ∧ (Tab tab) ∧ (L (tupI (backF tab)) h)
theorem rd_back_table_2 : ∀ xs h E L, sp_back_table_2 xs h E L → xs.length = 1 ∧ t_back_table_2 (fnE E L) (lstart 4 xs) h := by
  rintro _ h E L ⟨xt, tab, rfl, ht, hT, q⟩
  refine ⟨rfl, ?_⟩
  show t_back_table_2 (fnE E L) [some xt, none, none, none] h
  refine fn_go ?_
  unfold t_back_table_2
  have H := all0_start h
  have tl := hT.len
  walk_at "st"
  refine s_rep (by walk_at "hk") (by simp) ?_
  walk_at "go"
  have e0 : (List.replicate (Int.toNat 16) [LV.int 0]).flatten = (List.replicate 16 (0 : Int)).map LV.int := rfl
  rw [e0] at H
  refine s_forEQ (xs := tab.map .int) (by walk_at "sq") (fun i s' h' => (∃ w1 w2, s' = [some xt, some (.ref p), w1, w2]) ∧ stars [pts p (.lst (((List.range i).foldl (backS tab) (List.replicate 16 0)).map .int)), all0 h] h') ?_ ⟨⟨_, _, rfl⟩, (show stars [pts p (.lst ((List.replicate 16 (0 : Int)).map .int)), all0 h] h' from by walk_at "fr")⟩ ?_ ?_
  · rintro i s' h' ⟨_, H⟩
    walk_at "sq"
  · rintro s' h' ⟨⟨w1, w2, rfl⟩, H⟩
    rw [List.length_map] at H
    walk_at "go"
    show Dn (L (tupI (backF tab))) _
    walk_at "dn"
  · rintro i y s' h' hy ⟨⟨w1, w2, rfl⟩, H⟩
    obtain ⟨c, hc, rfl⟩ := map_get hy
    have hi : i < tab.length := (List.getElem?_eq_some_iff.mp hc).1
    have gc : gI tab i = c := by rw [gI_nat hi]; exact (List.getElem?_eq_some_iff.mp hc).2
    have dc := hT.dig c (List.mem_of_getElem? hc)
    have e2 : (List.range (i + 1)).foldl (backS tab) (List.replicate 16 (0 : Int)) = backS tab ((List.range i).foldl (backS tab) (List.replicate 16 0)) i := by rw [List.range_succ, List.foldl_append]; rfl
    have ln := (back_fold hT i (by omega)).1
    rw [e2]
    generalize (List.range i).foldl (backS tab) (List.replicate 16 (0 : Int)) = m at ln H
    walk_at "go"
    refine s_setL H (by walk_at "pe") (ixN_of dc.1 (by rw [List.length_map]; omega)) fun h' H => ?_
    refine ⟨⟨_, _, rfl⟩, ?_⟩
    unfold backS
    rw [set_ints] at H
    rw [gc]
    exact H
theorem i_back_table_2 {xt : LV} {tab : List Int} {h : LH} {E : LX} {L : LK} (ht : seqOf h xt = some (tab.map .int)) (hT : Tab tab) (q : L (tupI (backF tab)) h) : sp_back_table_2 [xt] h E L := ⟨_, _, rfl, ht, hT, q⟩
set_option hygiene false in
local macro_rules | `(tactic| walk_at "vc") => `(tactic| ((with_reducible apply i_back_table_2); (focus walk_at "sq"); (focus walk_at "pr")))
def t_l_is_1 (c0 : LSp) : LTS :=
  (lSeq (lIfS (lTru (lCB gIsi (lCons (lVar 1) (lCons (lTup (lCons (lC (.ty "tuple")) (lCons (lC (.ty "list")) lNil))) lNil)))) (lSeq (lIfS (lOr (lTest (lOp gNe (lCB gIsi (lCons (lVar 0) (lCons (lC (.ty "tuple")) lNil))) (lCB gIsi (lCons (lVar 1) (lCons (lC (.ty "tuple")) lNil))))) (lTest (lOp gNe (lCB gIsi (lCons (lVar 0) (lCons (lC (.ty "list")) lNil))) (lCB gIsi (lCons (lVar 1) (lCons (lC (.ty "list")) lNil)))))) (lRet (lC (.bl false))) lNx)
  (lRet (lAndV (lOp gEq (lCB gLen (lCons (lVar 0) lNil)) (lCB gLen (lCons (lVar 1) lNil))) (lCB gAll (lCons (lLc (liZip (lVar 0) (lVar 1)) (.tp [2, 3]) lYes (lCall c0 (lCons (lVar 2) (lCons (lVar 3) lNil))) [2, 3]) lNil))))) lNx)
  (lSeq (lIfS (lTest (lOp (gIs id) (lVar 1) (lC .non))) (lRet (lOp (gIs id) (lVar 0) (lC .non))) lNx)
  (lSeq (lIfS (lTru (lCB gIsi (lCons (lVar 1) (lCons (lC (.ty "str")) lNil)))) (lRet (lAndV (lCB gIsi (lCons (lVar 0) (lCons (lC (.ty "str")) lNil))) (lOp gEq (lVar 0) (lVar 1)))) lNx)
  (lRet (lAndV (lCB gIsi (lCons (lVar 0) (lCons (lC (.ty "int")) lNil))) (lAndV (lNotV (lCB gIsi (lCons (lVar 0) (lCons (lC (.ty "bool")) lNil)))) (lOp gEq (lVar 0) (lVar 1))))))))
def sp_l_is_1 (n : Nat) : LSp := fun xs h _ L => ∃ x, xs = [x, x] ∧ Pl n x ∧ L (.bl true) h
theorem sp_l_is_1_zero : ∀ xs h E L, ¬ sp_l_is_1 0 xs h E L := fun _ _ _ _ ⟨_, _, p, _⟩ => by cases p
theorem i_l_is_1 {n : Nat} {x : LV} {h : LH} {E : LX} {L : LK} (a : Pl n x) (q : L (.bl true) h) : sp_l_is_1 n [x, x] h E L := ⟨x, rfl, a, q⟩
theorem rd_l_is_1 (n : Nat) : ∀ xs h E L, sp_l_is_1 (n + 1) xs h E L → xs.length = 2 ∧ t_l_is_1 (sp_l_is_1 n) (fnE E L) (lstart 4 xs) h := by
  rintro _ h E L ⟨x, rfl, a, q⟩
  refine ⟨rfl, ?_⟩
  show t_l_is_1 _ (fnE E L) [some x, some x, none, none] h
  refine fn_go ?_
  unfold t_l_is_1
  have H := all0_start h
  cases a with
  | non => walk_at "go"
  | int =>
    walk_at "go"
    rw [decide_eq_true rfl]
    walk_at "dn"
  | str =>
    walk_at "go"
  | @tup _ xs hz hx =>
    walk_at "go"
    · refine lc_zipY (f := fun u w => [some (.tup xs), some (.tup xs), some u, some w]) (fun _ _ => rfl) rfl hz (fun i u w h' K eu ew hs k => ?_) fun D hD => ?_
      · rw [eu] at ew
        cases ew
        walk_at "go"
        exact i_l_is_1 (hx u (List.mem_of_getElem? eu)) k
      · walk_at "go"
        refine i_bls (bs := List.replicate xs.length true) ?_ ?_
        · rw [List.map_replicate]; exact lstOf_lst up_same
        · rw [allT]
          exact Dn.fresh hD (.mk q)
local macro_rules | `(tactic| walk_at "vc") => `(tactic| ((with_reducible apply i_l_is_1); (focus walk_at "pl")))
def t_is_digit_1 : LTS :=
  (lRet (lAndV (lCB gIsi (lCons (lVar 0) (lCons (lC (.ty "int")) lNil))) (lAndV (lNotV (lCB gIsi (lCons (lVar 0) (lCons (lC (.ty "bool")) lNil)))) (lChain gLe gLt (lC (.int 0)) (lVar 0) (lC (.int 16))))))
def sp_is_digit_1 : LSp := fun xs h E L => xs.length = 1 ∧ t_is_digit_1 (fnE E L) (lstart 1 xs) h
theorem rd_is_digit_1 : ∀ xs h E L, sp_is_digit_1 xs h E L → xs.length = 1 ∧ t_is_digit_1 (fnE E L) (lstart 1 xs) h := fun _ _ _ _ q => q
theorem i_is_digit_1 {x1 : LV} {h : LH} {E : LX} {L : LK} (q : t_is_digit_1 ⟨(fnE E L).nx, (fnE E L).rt, (fnE E L).ex, (fnE E L).bk, (fnE E L).ct⟩ [some x1] h) : sp_is_digit_1 [x1] h E L := ⟨rfl, q⟩
local macro_rules | `(tactic| walk_at "vc") => `(tactic| ((with_reducible refine i_is_digit_1 ?_); unfold t_is_digit_1))
def t_is_table_2 (c0 : LSp) : LTS :=
  (lSeq (lIfS (lOr (lNot (lTru (lCB gIsi (lCons (lVar 0) (lCons (lC (.ty "tuple")) lNil))))) (lOr (lTest (lOp gNe (lCB gLen (lCons (lVar 0) lNil)) (lC (.int 16)))) (lNot (lTru (lCB gAll (lCons (lLc (liSeq (lVar 0)) (.nm 1) lYes (lCall c0 (lCons (lVar 1) lNil)) [1]) lNil)))))) (lRet (lC (.bl false))) lNx)
  (lRet (lOp gEq (lLenSetT (lVar 0)) (lC (.int 16)))))
def sp_is_table_2 : LSp := fun xs h _ L => ∃ (tab : List Int), xs = [.tup (tab.map .int)] ∧ (Tab tab) ∧ (L (.bl true) h)
theorem rd_is_table_2 : ∀ xs h E L, sp_is_table_2 xs h E L → xs.length = 1 ∧ t_is_table_2 sp_is_digit_1 (fnE E L) (lstart 2 xs) h := by
  rintro _ h E L ⟨tab, rfl, hT, q⟩
  refine ⟨rfl, ?_⟩
  show t_is_table_2 sp_is_digit_1 (fnE E L) [some (.tup (tab.map .int)), none] h
  refine fn_go ?_
  unfold t_is_table_2
  have H := all0_start h
  have hl := hT.len
  have hm : (tab.map LV.int).length = 16 := by rw [List.length_map]; exact hl
  walk_at "go"
  · exact absurd (show ((tab.map LV.int).length : Int) = 16 by omega) ‹_›
  apply s_lcM (fun _ => .bl true) H (fun y => rfl)
  · omega
  · intro D' acc y h2 K hy H k
    obtain ⟨c, hcm, rfl⟩ := List.mem_map.mp hy
    obtain ⟨hi0, hi1⟩ := hT.dig c hcm
    walk_at "go"
    · rw [decide_eq_true hi1]
      exact k
    · exact absurd hi0 hc
  intro D' h2 H
  rw [show (tab.map LV.int).map (fun _ => LV.bl true) = (List.replicate tab.length true).map .bl by rw [List.map_map, List.map_replicate]; exact List.map_const ..] at H
  walk_at "st"
  refine i_bls (lstOf_lst (by walk_at "hk")) ?_
  rw [show (List.replicate tab.length true).all id = true by rw [List.all_eq_true]; intro b hb; exact (List.mem_replicate.mp hb).2]
  walk_at "go"
  refine s_lenSetT (by omega) fun ks k1 k2 => ?_
  have es := set_card k1 k2
  walk_at "go"
  rw [show decide ((ks.length : Int) = 16) = true from by
    refine decide_eq_true ?_
    rw [decide_eq_true hT.nd, decide_eq_true_eq] at es
    omega]
  walk_at "dn"
theorem i_is_table_2 {tab : List Int} {h : LH} {E : LX} {L : LK} (hT : Tab tab) (q : L (.bl true) h) : sp_is_table_2 [.tup (tab.map .int)] h E L := ⟨_, rfl, hT, q⟩
set_option hygiene false in
local macro_rules | `(tactic| walk_at "vc") => `(tactic| ((with_reducible apply i_is_table_2); (focus walk_at "pr")))
def t_law_50 (c0 c1 c2 c3 c4 c5 : LSp) : LTS :=
  (lSeq (lAsg (lCall c0 (lCons (lVar 0) (lCons (lC (.int 8)) lNil))) (lgName 1))
  (lSeq (lFor (liRng1 (lCons (lCB gMax2 (lCons (lC (.int 2)) (lCons (lCB gLen (lCons (lVar 1) lNil)) lNil))) lNil)) (lgName 2) (lSeq (lAsg (lCall c1 (lCons (lVar 1) (lCons (lVar 2) lNil))) (lgName 3))
  (lSeq (lAsg (lCall c2 (lCons (lVar 3) lNil)) (lgName 4))
  (lSeq (lAsg (lCB gList (lCons (lWk (lVar 4)) lNil)) (lgName 5))
  (lSeq (lAsg (lCB gTuple (lCons (lLc (liRng1 (lCons (lC (.int 16)) lNil)) (.nm 8) lYes (lTIxE (lVar 4) (lCons (lVar 8) lNil)) [8]) lNil)) (lgName 6))
  (lSeq (lAsg (lCall c3 (lCons (lVar 5) lNil)) (lgName 7))
  (lSeq (lIfS (lOr (lNot (lTru (lCall c4 (lCons (lVar 7) (lCons (lVar 6) lNil))))) (lOr (lTest (lOp gNe (lVar 5) (lCB gList (lCons (lWk (lVar 4)) lNil)))) (lTest (lOp (gIs (!·)) (lCall c5 (lCons (lVar 7) lNil)) (lC (.bl true)))))) (lRet (lC (.bl false))) lNx)
  (lIfS (lOr (lNot (lTru (lCall c4 (lCons (lCall c3 (lCons (lWk (lVar 4)) lNil)) (lCons (lVar 6) lNil))))) (lNot (lTru (lCall c4 (lCons (lCall c3 (lCons (lVar 6) lNil)) (lCons (lWk (lVar 4)) lNil)))))) (lRet (lC (.bl false))) lNx))))))))
  (lRet (lC (.bl true)))))
theorem x_idx {tab : List Int} (h : tab.Perm (rgL 16)) {i : Nat} (h1 : i < 16) : (backF tab)[i]? = some ((tab.idxOf (i : Int) : Nat) : Int) := by
  have T := Tab.of_perm h
  have hl := T.len
  obtain ⟨f1, f2, f3⟩ := forth_of h (i := (i : Int)) (by omega) (by omega)
  have hb : i < (backF tab).length := by rw [backF_length]; exact h1
  have e0 : gI (backF tab) (i : Int) = (backF tab)[i] := gI_nat hb
  rw [List.getElem?_eq_getElem hb]
  congr 1
  rw [← e0]
  obtain ⟨k, hk⟩ : ∃ k : Nat, gI (backF tab) (i : Int) = (k : Int) := ⟨(gI (backF tab) (i : Int)).toNat, by omega⟩
  rw [hk] at f1 f3 ⊢
  have hk2 : k < tab.length := by omega
  rw [gI_nat hk2] at f1
  have hm : (i : Int) ∈ tab := tab_all h (by omega) (by omega)
  have hlt := List.idxOf_lt_length_iff.mpr hm
  have e2 : tab[tab.idxOf (i : Int)] = (i : Int) := List.getElem_idxOf hlt
  have e3 : k = tab.idxOf (i : Int) := by rw [← f1]; exact (T.nd.idxOf_getElem k hk2).symm
  rw [e3]
theorem x_back {tab : List Int} (h : tab.Perm (rgL 16)) : Tab (backF tab) ∧ backF (backF tab) = tab := by
  have T := Tab.of_perm h
  have hl := T.len
  have bl : (backF tab).length = 16 := backF_length
  have TB : Tab (backF tab) := by
    refine ⟨bl, fun x hx => ?_, ?_⟩
    · obtain ⟨i, hi, e⟩ := List.getElem_of_mem hx
      have f := forth_of h (i := (i : Int)) (by omega) (by omega)
      rw [gI_nat hi, e] at f
      exact f.2
    · refine List.pairwise_iff_getElem.mpr fun i j hi hj hij e => ?_
      have f1 := (forth_of h (i := (i : Int)) (by omega) (by omega)).1
      have f2 := (forth_of h (i := (j : Int)) (by omega) (by omega)).1
      rw [gI_nat hi] at f1
      rw [gI_nat hj] at f2
      rw [e, f2] at f1
      omega
  refine ⟨TB, List.ext_getElem (by rw [backF_length, hl]) fun k h1 h2 => ?_⟩
  have b1 := back_of T (i := (k : Int)) (by omega) (by omega)
  have dk := T.dig tab[k] (List.getElem_mem h2)
  rw [gI_nat h2] at b1
  have b2 := back_of TB (i := tab[k]) dk.1 dk.2
  rw [b1, gI_nat h1] at b2
  exact b2
theorem rd_law_50 : ∀ xs h E L, lspLaw xs h E L → xs.length = 1 ∧ t_law_50 sp_l_folded_2 sp_l_box_2 sp_l_table_4 sp_back_table_2 (sp_l_is_1 5) sp_is_table_2 (fnE E L) (lstart 9 xs) h := by
  rintro xs h E L ⟨ns, rfl, hl, hh, q⟩
  refine ⟨rfl, ?_⟩
  show t_law_50 sp_l_folded_2 sp_l_box_2 sp_l_table_4 sp_back_table_2 (sp_l_is_1 5) sp_is_table_2 (fnE E L) [some (.rl (ns.map .int)), none, none, none, none, none, none, none, none] h
  refine fn_go ?_
  unfold t_law_50
  have H : stars [] h := trivial
  walk_at "st"
  walk_at "st"
  refine for_rng (fun i s' h' => (∃ a2 a3 a4 a5 a6 a7 a8 : Option LV, s' = [some (.rl (ns.map .int)), some (.ref a), a2, a3, a4, a5, a6, a7, a8]) ∧ stars [pts a (.lst (ms.map .int))] h') ⟨⟨_, _, _, _, _, _, _, rfl⟩, by walk_at "fr"⟩ ?_ ?_
  · rintro s' h' ⟨⟨a2, a3, a4, a5, a6, a7, a8, rfl⟩, H⟩
    walk_at "go"
    exact .mk (q _)
  rintro i s' h' hi ⟨⟨a2, a3, a4, a5, a6, a7, a8, rfl⟩, H⟩
  walk_at "st"
  walk_at "st"
  have hT := Tab.of_perm htab
  have tl := hT.len
  obtain ⟨TB, eB⟩ := x_back htab
  have bl : (backF tab).length = 16 := backF_length
  -- @a
  walk_at "st"
  obtain ⟨Hp, rfl⟩ : ∃ X, X = p := ⟨_, rfl⟩
  walk_at "st"
  -- @b
  apply s_lcR (fun i acc Qs => acc = ((backF tab).take i).map LV.int ∧ Qs = pts Hp (.lst (tab.map .int)) :: pts a (.lst (ms.map .int)) :: box b 16 :: []) H (fun x => rfl)
  · exact ⟨_, by walk_at "ent", rfl, rfl⟩
  · clear H
    rintro D j acc _ h2 hj hl2 ⟨rfl, rfl⟩ H
    have hj : j < 16 := hj
    have e9 := x_idx htab hj
    rw [Int.zero_add]
    repeat' walk_at "vv"
    refine s_tix1 ?_
    repeat' walk_at "vv"
    refine s_tix2 (tab_all htab (by omega) (by omega)) ?_
    repeat' walk_at "vv"
    refine gApp.mk H (by walk_at "pk") hl2 hj (by decide) ⟨?_, rfl⟩ (by walk_at "ent")
    rw [take_snoc e9, List.map_append, Int.zero_add]
    rfl
  clear H
  rintro D acc _ h2 hl2 ⟨rfl, rfl⟩ H
  have H : stars [pts D (.lst ((backF tab).map .int)), pts Hp (.lst (tab.map .int)), pts a (.lst (ms.map .int))] h2 := by
    rw [show (backF tab).take (Int.toNat 16) = backF tab from by exact List.take_of_length_le (by rw [bl]; decide)] at H
    walk_at "fr"
  -- @c
  walk_at "st"
  walk_at "st"
  -- @d
  refine i_eq_intsL (xs := tab) (by walk_at "hk") (by walk_at "hk") ?_
  repeat' walk_at "vv"
  -- @e
  rw [eB, show wk (.xt (tab.map .int)) = tupI tab from rfl]
  refine i_l_is_1 (Pl.ints (by omega)) ?_
  repeat' walk_at "vv"
  -- @f
  exact ⟨⟨_, _, _, _, _, _, _, rfl⟩, by walk_at "fr"⟩
end VL

namespace VL.Ok03
open PySem PySem.Spec PyProof.Rows L2 VL
/-- what the top has left -/
structure Tx (K : PySem.W.Frag) (mg : Str → Option Value) : Prop where
  f_abs : mg "abs" = none
  f_all : mg "all" = none
  f_bool : mg "bool" = none
  f_divmod : mg "divmod" = none
  f_enumerate : mg "enumerate" = none
  f_int : mg "int" = none
  f_isinstance : mg "isinstance" = none
  f_len : mg "len" = none
  f_list : mg "list" = none
  f_max : mg "max" = none
  f_range : mg "range" = none
  f_set : mg "set" = none
  f_str : mg "str" = none
  f_tuple : mg "tuple" = none
  f_zip : mg "zip" = none
  g__law_box : mg "_law_box" = some (.ref (He.ga K "_law_box"))
  g__law_folded : mg "_law_folded" = some (.ref (He.ga K "_law_folded"))
  g__law_is : mg "_law_is" = some (.ref (He.ga K "_law_is"))
  g__law_table : mg "_law_table" = some (.ref (He.ga K "_law_table"))
  g__law_take : mg "_law_take" = some (.ref (He.ga K "_law_take"))
  g_back_table : mg "back_table" = some (.ref (He.ga K "back_table"))
  g_is_digit : mg "is_digit" = some (.ref (He.ga K "is_digit"))
  g_is_table : mg "is_table" = some (.ref (He.ga K "is_table"))
  g_law : mg "law" = some (.ref (He.ga K "law"))
  i_DIGITS : ∃ t, mg "DIGITS" = some (.int 16 t)
  d_l_folded : ∃ fd, FunD K "_law_folded" "_law_folded" (defArgs s_l_folded) (defBody s_l_folded) (defScope s_l_folded) [] [] (He.fAd K ("_law_folded", none)) fd
  d_l_box : ∃ fd, FunD K "_law_box" "_law_box" (defArgs s_l_box) (defBody s_l_box) (defScope s_l_box) [] [] (He.fAd K ("_law_box", none)) fd
  d_l_take : ∃ fd, FunD K "_law_take" "_law_take" (defArgs s_l_take) (defBody s_l_take) (defScope s_l_take) [] [] (He.fAd K ("_law_take", none)) fd
  d_l_table : ∃ fd, FunD K "_law_table" "_law_table" (defArgs s_l_table) (defBody s_l_table) (defScope s_l_table) [] [] (He.fAd K ("_law_table", none)) fd
  d_back_table : ∃ fd, FunD K "back_table" "back_table" (defArgs s_back_table) (defBody s_back_table) (defScope s_back_table) [] [] (He.fAd K ("back_table", none)) fd
  d_l_is : ∃ fd, FunD K "_law_is" "_law_is" (defArgs s_l_is) (defBody s_l_is) (defScope s_l_is) [] [] (He.fAd K ("_law_is", none)) fd
  d_is_digit : ∃ fd, FunD K "is_digit" "is_digit" (defArgs s_is_digit) (defBody s_is_digit) (defScope s_is_digit) [] [] (He.fAd K ("is_digit", none)) fd
  d_is_table : ∃ fd, FunD K "is_table" "is_table" (defArgs s_is_table) (defBody s_is_table) (defScope s_is_table) [] [] (He.fAd K ("is_table", none)) fd
  d_law : ∃ fd, FunD K "law" "law" (defArgs s_law) (defBody s_law) (defScope s_law) [] [] (He.fAd K ("law", none)) fd
section
variable {P : Program} {w : World} {K : PySem.W.Frag} {mg : Str → Option Value} {base : Heap}
theorem ok_l_folded (T : Tx K mg) : LOk P w K mg base 1 ("_law_folded", none) ["_law_script", "_law_many"] sp_l_folded_2 := by
  refine fn_bodyO T.d_l_folded sc_l_folded (l := t_l_folded_2) rd_l_folded_2 (fun _ _ _ _ _ _ us hl => match us, hl with | [_, _], _ => rfl) fun cdv A outer s H E hr => ?_
  have tk := takes_of_body (P := P) (w := w) (K := K) (mg := mg) (base := base) (N := ["_law_script", "_law_many", "_law_cells", "_law_k", "_law_cell"]) (qual := "_law_folded") (scope := defScope s_l_folded) (f := He.fAd K ("_law_folded", none)) (cd := cdv) (A := A) (outer := outer) (s := s) (H := H) (E := E)
  have hp := passes_body (P := P) (w := w) (K := K) (mg := mg) (base := base) (N := ["_law_script", "_law_many", "_law_cells", "_law_k", "_law_cell"]) (qual := "_law_folded") (scope := defScope s_l_folded) (f := He.fAd K ("_law_folded", none)) (cd := cdv) (A := A) (outer := outer) (s := s) (H := H) (E := E)
  have hu64 := hr.units
  have hu65 := hu65_of hr
  have hu1 := hu_of hr
  have nd := (sc_l_folded).nd
  exact (lss_cons (ls_set 2 nd (le_callT call_list_of src_list (by decide +kernel) T.f_list (la_cons (le_slice (le_v 0) lo_none (lo_some (le_v 1))) la_nil)))
  (lss_cons (ls_for hp rfl (li_enum2 T.f_enumerate (le_slice (le_v 0) (lo_some (le_v 1)) (lo_some le_int))) (lg_tup rfl (lgs_cons (lg_name 3 nd) (lgs_cons (lg_name 4 nd) lgs_nil))) (lss_one (ls_asg (le_add (le_ix hu1 (le_v 2) (le_mod (le_v 3) (le_v 1))) (le_mul (le_v 4) (le_add (le_v 3) le_int))) (lg_sub hu1 (le_v 2) (le_mod (le_v 3) (le_v 1))))))
  (lss_one (ls_ret (le_v 2)))))
theorem ok_l_box (T : Tx K mg) : LOk P w K mg base 1 ("_law_box", none) ["_law_script", "_law_k"] sp_l_box_2 := by
  refine fn_bodyO T.d_l_box sc_l_box (l := t_l_box_2) rd_l_box_2 (fun _ _ _ _ _ _ us hl => match us, hl with | [_, _], _ => rfl) fun cdv A outer s H E hr => ?_
  have tk := takes_of_body (P := P) (w := w) (K := K) (mg := mg) (base := base) (N := ["_law_script", "_law_k", "_law_cell"]) (qual := "_law_box") (scope := defScope s_l_box) (f := He.fAd K ("_law_box", none)) (cd := cdv) (A := A) (outer := outer) (s := s) (H := H) (E := E)
  have hp := passes_body (P := P) (w := w) (K := K) (mg := mg) (base := base) (N := ["_law_script", "_law_k", "_law_cell"]) (qual := "_law_box") (scope := defScope s_l_box) (f := He.fAd K ("_law_box", none)) (cd := cdv) (A := A) (outer := outer) (s := s) (H := H) (E := E)
  have hu64 := hr.units
  have hu65 := hu65_of hr
  have hu1 := hu_of hr
  have nd := (sc_l_box).nd
  exact (lss_cons (ls_set 2 nd le_int)
  (lss_cons (ls_if (lt_lt  (le_v 1) (le_callB call_len4 src_len (by decide +kernel) T.f_len (la_cons (le_v 0) la_nil))) (lss_one (ls_set 2 nd (le_ix hu1 (le_v 0) (le_v 1)))) lss_nil)
  (lss_one (ls_ret (le_lst (la_cons (le_mul (le_callB call_abs src_abs (by decide +kernel) T.f_abs (la_cons (le_v 2) la_nil)) (le_callT call_int1 src_int1 (by decide +kernel) T.f_int (la_cons (le_ge  (le_callB call_abs src_abs (by decide +kernel) T.f_abs (la_cons (le_v 2) la_nil)) (le_pow le_int le_int)) la_nil))) (la_cons (le_mod (le_add (le_v 2) (le_mul le_int (le_v 1))) le_int) (la_cons le_int la_nil))))))))
theorem ok_l_take (T : Tx K mg) : LOk P w K mg base 1 ("_law_take", none) ["_law_box_here", "_law_many"] sp_l_take_2 := by
  refine fn_bodyO T.d_l_take sc_l_take (l := t_l_take_2) rd_l_take_2 (fun _ _ _ _ _ _ us hl => match us, hl with | [_, _], _ => rfl) fun cdv A outer s H E hr => ?_
  have tk := takes_of_body (P := P) (w := w) (K := K) (mg := mg) (base := base) (N := ["_law_box_here", "_law_many", "_law_found", "_law_once"]) (qual := "_law_take") (scope := defScope s_l_take) (f := He.fAd K ("_law_take", none)) (cd := cdv) (A := A) (outer := outer) (s := s) (H := H) (E := E)
  have hp := passes_body (P := P) (w := w) (K := K) (mg := mg) (base := base) (N := ["_law_box_here", "_law_many", "_law_found", "_law_once"]) (qual := "_law_take") (scope := defScope s_l_take) (f := He.fAd K ("_law_take", none)) (cd := cdv) (A := A) (outer := outer) (s := s) (H := H) (E := E)
  have hu64 := hr.units
  have hu65 := hu65_of hr
  have hu1 := hu_of hr
  have nd := (sc_l_take).nd
  exact (lss_cons (ls_if (lt_gt  (le_ix hu1 (le_v 0) le_int) le_int) (lss_cons (ls_asg (le_callB call_divmod src_divmod (by decide +kernel) T.f_divmod (la_cons (le_ix hu1 (le_v 0) le_int) (la_cons (le_v 1) la_nil))) (lg_tup rfl (lgs_cons (lg_sub hu1 (le_v 0) le_int) (lgs_cons (lg_name 2 nd) lgs_nil))))
  (lss_one (ls_ret (le_v 2)))) lss_nil)
  (lss_cons (ls_asg (le_add (le_ix hu1 (le_v 0) le_int) le_int) (lg_sub hu1 (le_v 0) le_int))
  (lss_cons (ls_set 3 nd (le_mod (le_mul (le_add (le_ix hu1 (le_v 0) le_int) (le_mul le_int (le_ix hu1 (le_v 0) le_int))) le_int) le_int))
  (lss_one (ls_ret (le_mod (le_fdiv (le_mod (le_mul (le_v 3) (le_add (le_v 3) le_int)) le_int) le_int) (le_v 1)))))))
theorem ok_l_table (T : Tx K mg) : LOk P w K mg base 2 ("_law_table", none) ["_law_box_here"] sp_l_table_4 := by
  refine fn_bodyO T.d_l_table sc_l_table (l := t_l_table_4 sp_l_take_2) rd_l_table_4 (fun _ _ _ _ _ _ us hl => match us, hl with | [_], _ => rfl) fun cdv A outer s H E hr => ?_
  have tk := takes_of_body (P := P) (w := w) (K := K) (mg := mg) (base := base) (N := ["_law_box_here", "_law_made", "_law_place", "_law_other"]) (qual := "_law_table") (scope := defScope s_l_table) (f := He.fAd K ("_law_table", none)) (cd := cdv) (A := A) (outer := outer) (s := s) (H := H) (E := E)
  have hp := passes_body (P := P) (w := w) (K := K) (mg := mg) (base := base) (N := ["_law_box_here", "_law_made", "_law_place", "_law_other"]) (qual := "_law_table") (scope := defScope s_l_table) (f := He.fAd K ("_law_table", none)) (cd := cdv) (A := A) (outer := outer) (s := s) (H := H) (E := E)
  have hu64 := hr.units
  have hu65 := hu65_of hr
  have hu1 := hu_of hr
  have nd := (sc_l_table).nd
  have F_l_take := ok_l_take (P := P) (w := w) (base := base) T
  exact (lss_cons (ls_set 1 nd (le_listRg1 rfl T.f_list T.f_range le_int))
  (lss_cons (ls_for hp rfl (li_range1 T.f_range (la_cons le_int la_nil)) (lg_name 2 nd) (lss_cons (ls_set 3 nd (le_add (le_v 2) (le_callO F_l_take T.g__law_take (hr.mono (by omega)) tk (la_cons (le_v 0) (la_cons (le_sub le_int (le_v 2)) la_nil)))))
  (lss_one (ls_asg (le_tup (la_cons (le_ix hu1 (le_v 1) (le_v 3)) (la_cons (le_ix hu1 (le_v 1) (le_v 2)) la_nil))) (lg_tup rfl (lgs_cons (lg_sub hu1 (le_v 1) (le_v 2)) (lgs_cons (lg_sub hu1 (le_v 1) (le_v 3)) lgs_nil)))))))
  (lss_one (ls_ret (le_callT call_tupleX src_tupleX (by decide +kernel) T.f_tuple (la_cons (le_v 1) la_nil))))))
theorem ok_back_table (T : Tx K mg) : LOk P w K mg base 1 ("back_table", none) ["table"] sp_back_table_2 := by
  refine fn_bodyO T.d_back_table sc_back_table (l := t_back_table_2) rd_back_table_2 (fun _ _ _ _ _ _ us hl => match us, hl with | [_], _ => rfl) fun cdv A outer s H E hr => ?_
  have tk := takes_of_body (P := P) (w := w) (K := K) (mg := mg) (base := base) (N := ["table", "back", "place", "digit"]) (qual := "back_table") (scope := defScope s_back_table) (f := He.fAd K ("back_table", none)) (cd := cdv) (A := A) (outer := outer) (s := s) (H := H) (E := E)
  have hp := passes_body (P := P) (w := w) (K := K) (mg := mg) (base := base) (N := ["table", "back", "place", "digit"]) (qual := "back_table") (scope := defScope s_back_table) (f := He.fAd K ("back_table", none)) (cd := cdv) (A := A) (outer := outer) (s := s) (H := H) (E := E)
  have hu64 := hr.units
  have hu65 := hu65_of hr
  have hu1 := hu_of hr
  have nd := (sc_back_table).nd
  exact (lss_cons (ls_set 1 nd (le_mul (le_lst (la_cons le_int la_nil)) (le_gint T.i_DIGITS)))
  (lss_cons (ls_for hp rfl (li_enum2 T.f_enumerate (le_v 0)) (lg_tup rfl (lgs_cons (lg_name 2 nd) (lgs_cons (lg_name 3 nd) lgs_nil))) (lss_one (ls_asg (le_v 2) (lg_sub hu1 (le_v 1) (le_v 3)))))
  (lss_one (ls_ret (le_callT call_tuple_of src_tuple (by decide +kernel) T.f_tuple (la_cons (le_v 1) la_nil))))))
theorem ok_l_is (T : Tx K mg) : ∀ i, LOk P w K mg base (i + 1) ("_law_is", none) ["_law_found", "_law_due"] (sp_l_is_1 i) := by
  intro i
  induction i with
  | zero => exact LOk.never T.d_l_is (sp_l_is_1_zero) (fun _ _ _ _ _ _ us hl => match us, hl with | [_, _], _ => rfl)
  | succ i ih =>
  have eL : i + 1 + 1 = i + 1 + 1 := by omega
  rw [eL]
  refine fn_bodyO T.d_l_is sc_l_is (l := t_l_is_1 (sp_l_is_1 i)) (rd_l_is_1 i) (fun _ _ _ _ _ _ us hl => match us, hl with | [_, _], _ => rfl) fun cdv A outer s H E hr => ?_
  have tk := takes_of_body (P := P) (w := w) (K := K) (mg := mg) (base := base) (N := ["_law_found", "_law_due", "_law_one", "_law_other"]) (qual := "_law_is") (scope := defScope s_l_is) (f := He.fAd K ("_law_is", none)) (cd := cdv) (A := A) (outer := outer) (s := s) (H := H) (E := E)
  have hp := passes_body (P := P) (w := w) (K := K) (mg := mg) (base := base) (N := ["_law_found", "_law_due", "_law_one", "_law_other"]) (qual := "_law_is") (scope := defScope s_l_is) (f := He.fAd K ("_law_is", none)) (cd := cdv) (A := A) (outer := outer) (s := s) (H := H) (E := E)
  have hu64 := hr.units
  have hu65 := hu65_of hr
  have hu1 := hu_of hr
  have nd := (sc_l_is).nd
  have IH := ih
  exact (lss_cons (ls_if (lt_truth (le_callB call_isi2 src_isi (by decide +kernel) T.f_isinstance (la_cons (le_v 1) (la_cons (le_tup (la_cons (le_bty T.f_tuple (by decide +kernel)) (la_cons (le_bty T.f_list (by decide +kernel)) la_nil))) la_nil)))) (lss_cons (ls_if (lw_t (lw_or (lt_ne hu64 (le_callB call_isi2 src_isi (by decide +kernel) T.f_isinstance (la_cons (le_v 0) (la_cons (le_bty T.f_tuple (by decide +kernel)) la_nil))) (le_callB call_isi2 src_isi (by decide +kernel) T.f_isinstance (la_cons (le_v 1) (la_cons (le_bty T.f_tuple (by decide +kernel)) la_nil)))) (lw_or1 (lt_ne hu64 (le_callB call_isi2 src_isi (by decide +kernel) T.f_isinstance (la_cons (le_v 0) (la_cons (le_bty T.f_list (by decide +kernel)) la_nil))) (le_callB call_isi2 src_isi (by decide +kernel) T.f_isinstance (la_cons (le_v 1) (la_cons (le_bty T.f_list (by decide +kernel)) la_nil))))))) (lss_one (ls_ret le_bl)) lss_nil)
  (lss_one (ls_ret (le_and (le_eq hu64 (le_callB call_len4 src_len (by decide +kernel) T.f_len (la_cons (le_v 0) la_nil)) (le_callB call_len4 src_len (by decide +kernel) T.f_len (la_cons (le_v 1) la_nil))) (le_one (le_callB (cr_all rfl) src_bls (by decide +kernel) T.f_all (la_cons (le_lc [("_law_one", 2), ("_law_other", 3)] (.tp [2, 3]) rfl nd (li_zip T.f_zip (le_v 0) (le_v 1)) (by dsimp only [cxOf, envOfC]; decide +kernel) (fun _ _ _ _ _ => pg_tup rfl (pgs_cons (pg_name (i := 2) nd rfl (Or.inl rfl)) (pgs_cons (pg_name (i := 3) nd rfl (Or.inl rfl)) pgs_nil))) (fun _ _ _ _ _ => lts_nil) (fun _ _ _ _ _ => (le_callO IH T.g__law_is (hr.mono (by omega)) takes0 (la_cons (le_v 2) (la_cons (le_v 3) la_nil))))) la_nil))))))) lss_nil)
  (lss_cons (ls_if (lt_is  (le_v 1) le_non) (lss_one (ls_ret (le_is  (le_v 0) le_non))) lss_nil)
  (lss_cons (ls_if (lt_truth (le_callB call_isi2 src_isi (by decide +kernel) T.f_isinstance (la_cons (le_v 1) (la_cons (le_bty T.f_str (by decide +kernel)) la_nil)))) (lss_one (ls_ret (le_and (le_callB call_isi2 src_isi (by decide +kernel) T.f_isinstance (la_cons (le_v 0) (la_cons (le_bty T.f_str (by decide +kernel)) la_nil))) (le_one (le_eq hu64 (le_v 0) (le_v 1)))))) lss_nil)
  (lss_one (ls_ret (le_and (le_callB call_isi2 src_isi (by decide +kernel) T.f_isinstance (la_cons (le_v 0) (la_cons (le_bty T.f_int (by decide +kernel)) la_nil))) (le_and (le_not (le_callB call_isi2 src_isi (by decide +kernel) T.f_isinstance (la_cons (le_v 0) (la_cons (le_bty T.f_bool (by decide +kernel)) la_nil)))) (le_one (le_eq hu64 (le_v 0) (le_v 1))))))))))
theorem ok_is_digit (T : Tx K mg) : LOk P w K mg base 1 ("is_digit", none) ["thing"] sp_is_digit_1 := by
  refine fn_bodyO T.d_is_digit sc_is_digit (l := t_is_digit_1) rd_is_digit_1 (fun _ _ _ _ _ _ us hl => match us, hl with | [_], _ => rfl) fun cdv A outer s H E hr => ?_
  have tk := takes_of_body (P := P) (w := w) (K := K) (mg := mg) (base := base) (N := ["thing"]) (qual := "is_digit") (scope := defScope s_is_digit) (f := He.fAd K ("is_digit", none)) (cd := cdv) (A := A) (outer := outer) (s := s) (H := H) (E := E)
  have hp := passes_body (P := P) (w := w) (K := K) (mg := mg) (base := base) (N := ["thing"]) (qual := "is_digit") (scope := defScope s_is_digit) (f := He.fAd K ("is_digit", none)) (cd := cdv) (A := A) (outer := outer) (s := s) (H := H) (E := E)
  have hu64 := hr.units
  have hu65 := hu65_of hr
  have hu1 := hu_of hr
  have nd := (sc_is_digit).nd
  exact (lss_one (ls_ret (le_and (le_callB call_isi2 src_isi (by decide +kernel) T.f_isinstance (la_cons (le_v 0) (la_cons (le_bty T.f_int (by decide +kernel)) la_nil))) (le_and (le_not (le_callB call_isi2 src_isi (by decide +kernel) T.f_isinstance (la_cons (le_v 0) (la_cons (le_bty T.f_bool (by decide +kernel)) la_nil)))) (le_one (le_chain op_le op_lt sr_cmp sr_cmp le_int (le_v 0) (le_gint T.i_DIGITS)))))))
theorem ok_is_table (T : Tx K mg) : LOk P w K mg base 2 ("is_table", none) ["thing"] sp_is_table_2 := by
  refine fn_bodyO T.d_is_table sc_is_table (l := t_is_table_2 sp_is_digit_1) rd_is_table_2 (fun _ _ _ _ _ _ us hl => match us, hl with | [_], _ => rfl) fun cdv A outer s H E hr => ?_
  have tk := takes_of_body (P := P) (w := w) (K := K) (mg := mg) (base := base) (N := ["thing", "digit"]) (qual := "is_table") (scope := defScope s_is_table) (f := He.fAd K ("is_table", none)) (cd := cdv) (A := A) (outer := outer) (s := s) (H := H) (E := E)
  have hp := passes_body (P := P) (w := w) (K := K) (mg := mg) (base := base) (N := ["thing", "digit"]) (qual := "is_table") (scope := defScope s_is_table) (f := He.fAd K ("is_table", none)) (cd := cdv) (A := A) (outer := outer) (s := s) (H := H) (E := E)
  have hu64 := hr.units
  have hu65 := hu65_of hr
  have hu1 := hu_of hr
  have nd := (sc_is_table).nd
  have F_is_digit := ok_is_digit (P := P) (w := w) (base := base) T
  exact (lss_cons (ls_if (lw_t (lw_or (lt_not (lt_truth (le_callB call_isi2 src_isi (by decide +kernel) T.f_isinstance (la_cons (le_v 0) (la_cons (le_bty T.f_tuple (by decide +kernel)) la_nil))))) (lw_or (lt_ne hu64 (le_callB call_len4 src_len (by decide +kernel) T.f_len (la_cons (le_v 0) la_nil)) (le_gint T.i_DIGITS)) (lw_or1 (lt_not (lt_truth (le_callB (cr_all rfl) src_bls (by decide +kernel) T.f_all (la_cons (le_lc [("digit", 1)] (.nm 1) rfl nd (li_seq (le_v 0)) (by dsimp only [cxOf, envOfC]; decide +kernel) (fun _ _ _ _ _ => pg_name (i := 1) nd rfl (Or.inl rfl)) (fun _ _ _ _ _ => lts_nil) (fun _ _ _ _ _ => (le_callO F_is_digit T.g_is_digit (hr.mono (by omega)) takes0 (la_cons (le_v 1) la_nil)))) la_nil)))))))) (lss_one (ls_ret le_bl)) lss_nil)
  (lss_one (ls_ret (le_eq hu64 (le_lenSetT rfl T.f_len T.f_set (le_v 0)) (le_gint T.i_DIGITS)))))
theorem ok_law (T : Tx K mg) : LOk P w K mg base 7 ("law", none) ["_law_script"] lspLaw := by
  refine fn_bodyO T.d_law sc_law (l := t_law_50 sp_l_folded_2 sp_l_box_2 sp_l_table_4 sp_back_table_2 (sp_l_is_1 5) sp_is_table_2) rd_law_50 (fun _ _ _ _ _ _ us hl => match us, hl with | [_], _ => rfl) fun cdv A outer s H E hr => ?_
  have tk := takes_of_body (P := P) (w := w) (K := K) (mg := mg) (base := base) (N := ["_law_script", "_law_cells", "_law_k", "_law_box_here", "_law_table_here", "_law_handed", "_law_due", "_law_found", "_law_digit"]) (qual := "law") (scope := defScope s_law) (f := He.fAd K ("law", none)) (cd := cdv) (A := A) (outer := outer) (s := s) (H := H) (E := E)
  have hp := passes_body (P := P) (w := w) (K := K) (mg := mg) (base := base) (N := ["_law_script", "_law_cells", "_law_k", "_law_box_here", "_law_table_here", "_law_handed", "_law_due", "_law_found", "_law_digit"]) (qual := "law") (scope := defScope s_law) (f := He.fAd K ("law", none)) (cd := cdv) (A := A) (outer := outer) (s := s) (H := H) (E := E)
  have hu64 := hr.units
  have hu65 := hu65_of hr
  have hu1 := hu_of hr
  have nd := (sc_law).nd
  have F_l_folded := ok_l_folded (P := P) (w := w) (base := base) T
  have F_l_box := ok_l_box (P := P) (w := w) (base := base) T
  have F_l_table := ok_l_table (P := P) (w := w) (base := base) T
  have F_back_table := ok_back_table (P := P) (w := w) (base := base) T
  have F_l_is := ok_l_is (P := P) (w := w) (base := base) T 5
  have F_is_table := ok_is_table (P := P) (w := w) (base := base) T
  exact (lss_cons (ls_set 1 nd (le_callO F_l_folded T.g__law_folded (hr.mono (by omega)) tk (la_cons (le_v 0) (la_cons le_int la_nil))))
  (lss_cons (ls_for hp rfl (li_range1 T.f_range (la_cons (le_callB (call_max2 rfl) src_II (by decide +kernel) T.f_max (la_cons le_int (la_cons (le_callB call_len4 src_len (by decide +kernel) T.f_len (la_cons (le_v 1) la_nil)) la_nil))) la_nil)) (lg_name 2 nd) (lss_cons (ls_set 3 nd (le_callO F_l_box T.g__law_box (hr.mono (by omega)) tk (la_cons (le_v 1) (la_cons (le_v 2) la_nil))))
  (lss_cons (ls_set 4 nd (le_callO F_l_table T.g__law_table (hr.mono (by omega)) tk (la_cons (le_v 3) la_nil)))
  (lss_cons (ls_set 5 nd (le_callT call_list_of src_list (by decide +kernel) T.f_list (la_cons (le_wk (le_v 4)) la_nil)))
  (lss_cons (ls_set 6 nd (le_callT call_tuple_of src_tuple (by decide +kernel) T.f_tuple (la_cons (le_lc [("_law_digit", 8)] (.nm 8) rfl nd (li_range1 T.f_range (la_cons le_int la_nil)) (by dsimp only [cxOf, envOfC]; decide +kernel) (fun _ _ _ _ _ => pg_name (i := 8) nd rfl (Or.inl rfl)) (fun _ _ _ _ _ => lts_nil) (fun _ _ _ _ _ => (le_tix (le_v 4) (la_cons (le_v 8) la_nil)))) la_nil)))
  (lss_cons (ls_set 7 nd (le_callO F_back_table T.g_back_table (hr.mono (by omega)) tk (la_cons (le_v 5) la_nil)))
  (lss_cons (ls_if (lw_t (lw_or (lt_not (lt_truth (le_callO F_l_is T.g__law_is (hr.mono (by omega)) tk (la_cons (le_v 7) (la_cons (le_v 6) la_nil))))) (lw_or (lt_ne hu64 (le_v 5) (le_callT call_list_of src_list (by decide +kernel) T.f_list (la_cons (le_wk (le_v 4)) la_nil))) (lw_or1 (lt_isnot  (le_callO F_is_table T.g_is_table (hr.mono (by omega)) tk (la_cons (le_v 7) la_nil)) le_bl))))) (lss_one (ls_ret le_bl)) lss_nil)
  (lss_one (ls_if (lw_t (lw_or (lt_not (lt_truth (le_callO F_l_is T.g__law_is (hr.mono (by omega)) tk (la_cons (le_callO F_back_table T.g_back_table (hr.mono (by omega)) tk (la_cons (le_wk (le_v 4)) la_nil)) (la_cons (le_v 6) la_nil))))) (lw_or1 (lt_not (lt_truth (le_callO F_l_is T.g__law_is (hr.mono (by omega)) tk (la_cons (le_callO F_back_table T.g_back_table (hr.mono (by omega)) tk (la_cons (le_v 6) la_nil)) (la_cons (le_wk (le_v 4)) la_nil)))))))) (lss_one (ls_ret le_bl)) lss_nil)))))))))
  (lss_one (ls_ret le_bl))))
end
theorem facts {K : PySem.W.Frag} {h : Heap} {mg : Str → Option Value} (X : K.In h) (G : h.Ns mainGlobals mg) (c : He.SaysD fa fn K) : Tx K mg where
  f_abs := He.free_ok X G (c.fact 0)
  f_all := He.free_ok X G (c.fact 1)
  f_bool := He.free_ok X G (c.fact 2)
  f_divmod := He.free_ok X G (c.fact 3)
  f_enumerate := He.free_ok X G (c.fact 4)
  f_int := He.free_ok X G (c.fact 5)
  f_isinstance := He.free_ok X G (c.fact 6)
  f_len := He.free_ok X G (c.fact 7)
  f_list := He.free_ok X G (c.fact 8)
  f_max := He.free_ok X G (c.fact 9)
  f_range := He.free_ok X G (c.fact 10)
  f_set := He.free_ok X G (c.fact 11)
  f_str := He.free_ok X G (c.fact 12)
  f_tuple := He.free_ok X G (c.fact 13)
  f_zip := He.free_ok X G (c.fact 14)
  g__law_box := He.glo_ok X G (c.fact 15)
  g__law_folded := He.glo_ok X G (c.fact 16)
  g__law_is := He.glo_ok X G (c.fact 17)
  g__law_table := He.glo_ok X G (c.fact 18)
  g__law_take := He.glo_ok X G (c.fact 19)
  g_back_table := He.glo_ok X G (c.fact 20)
  g_is_digit := He.glo_ok X G (c.fact 21)
  g_is_table := He.glo_ok X G (c.fact 22)
  g_law := He.glo_ok X G (c.fact 23)
  i_DIGITS := He.int_ok X G (c.fact 24)
  d_l_folded := c.def_ 0 rfl
  d_l_box := c.def_ 1 rfl
  d_l_take := c.def_ 2 rfl
  d_l_table := c.def_ 3 rfl
  d_back_table := c.def_ 4 rfl
  d_l_is := c.def_ 5 rfl
  d_is_digit := c.def_ 6 rfl
  d_is_table := c.def_ 7 rfl
  d_law := c.def_ 8 rfl
end VL.Ok03
open PySem PySem.W PySem.Calls PyProof.Rows
set_option maxRecDepth 100000 in
set_option maxHeartbeats 0 in
theorem PySem.Challenge.cw_rollcode_k03_tables_that_lead_back_holds : PySem.Challenge.rw_rollcode_k03_tables_that_lead_back.Holds := by
  refine VL.Ok03.front ?hc
  case hc =>
    refine L2.walk_ofE (l := PySem.Challenge.rw_rollcode_k03_tables_that_lead_back) (n := 63) (k := 7) (x := "_law_script") (CX := L2.CX0) rfl (by decide) VL.Ok03.front_d ⟨rfl, by decide, by decide⟩ ?F (fun _ _ _ _ z => z)
    intro w mg fa h Y G hmg0
    obtain ⟨K, KX, c⟩ := Y
    have hmg : mg ("law" : PySem.Str) = some (.ref fa) := by
      have e := VL.Ok03.front_n
      rw [← e]
      exact hmg0
    exact VL.law_end KX G hmg (Nat.le_refl _) (c.fact 23) (c.def_ 8 rfl) (fun _ _ _ _ _ _ us hl => match us, hl with | [_], _ => rfl) fun base _ _ => VL.Ok03.ok_law (VL.Ok03.facts KX G c)
